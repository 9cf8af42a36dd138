import PyProof.Rows.All
import Wide.All
import OpenK.AllK
import Wide.FinOn
import KE.LcTurns
import KE.KLcTest
import PySem.Challenge.RW_nu0265_01
set_option rowWalk.seconds 0
local macro_rules | `(tactic| omega) => `(tactic| lia)
-- text HD
section
open PySem PySem.W PyProof.Rows
set_option Elab.async false
set_option maxRecDepth 100000
set_option maxHeartbeats 8000000
namespace Mine
-- places in the given program: its top, the class's body, a def's parameters, body, scope, place
noncomputable def hd.top : List Stmt := PySem.Challenge.pw_nu0265_01.main.body
noncomputable def hd.cls : List Stmt := match hd.top with
  | _ :: .ClassDef _ _ _ b _ _ _ _ _ _ _ :: _ => b
  | _ => []
noncomputable def hd.ar (l : List Stmt) (i : Nat) : Arguments := match l.drop i with
  | .FunctionDef _ a _ _ _ _ _ _ _ _ :: _ => a
  | _ => default
noncomputable def hd.bo (l : List Stmt) (i : Nat) : List Stmt := match l.drop i with
  | .FunctionDef _ _ b _ _ _ _ _ _ _ :: _ => b
  | _ => []
noncomputable def hd.sc (l : List Stmt) (i : Nat) : Scope := match l.drop i with
  | .FunctionDef _ _ _ _ _ _ c _ _ _ :: _ => c
  | _ => default
noncomputable def hd.po (l : List Stmt) (i : Nat) : Pos := match l.drop i with
  | .FunctionDef _ _ _ _ _ _ _ _ _ p :: _ => p
  | _ => default
-- the written part of the heap behind the top, the defs' parts taken out of the program
noncomputable def hd.heap_39 : Params → Frag := fun P =>
  (
   (@Prod.mk Nat PySem.Obj (nat_lit 2) (PySem.Obj.mk PySem.Value.none (@none Nat) (PySem.Data.dict (List.toArray []) (0 : Nat)) (List.toArray []))) ::
   (@Prod.mk Nat PySem.Obj (nat_lit 3) (PySem.Obj.mk (PySem.Value.type "dict") (@none Nat) (PySem.Data.dict (List.toArray [(PySem.DictEntry.mk (PySem.PyData.keyHash P (PySem.Str.ofString "__name__")) (PySem.Value.str (PySem.Str.ofString "__name__") (165 : Nat)) (PySem.Value.str (PySem.Str.ofString "law_nu0265_01") (330 : Nat))), (PySem.DictEntry.mk (PySem.PyData.keyHash P (PySem.Str.ofString "__doc__")) (PySem.Value.str (PySem.Str.ofString "__doc__") (166 : Nat)) PySem.Value.none), (PySem.DictEntry.mk (PySem.PyData.keyHash P (PySem.Str.ofString "__package__")) (PySem.Value.str (PySem.Str.ofString "__package__") (167 : Nat)) PySem.Value.none), (PySem.DictEntry.mk (PySem.PyData.keyHash P (PySem.Str.ofString "__loader__")) (PySem.Value.str (PySem.Str.ofString "__loader__") (168 : Nat)) (PySem.Value.builtin "__main__.__loader__#opaque")), (PySem.DictEntry.mk (PySem.PyData.keyHash P (PySem.Str.ofString "__spec__")) (PySem.Value.str (PySem.Str.ofString "__spec__") (169 : Nat)) PySem.Value.none), (PySem.DictEntry.mk (PySem.PyData.keyHash P (PySem.Str.ofString "__annotations__")) (PySem.Value.str (PySem.Str.ofString "__annotations__") (170 : Nat)) (PySem.Value.ref (6 : Nat))), (PySem.DictEntry.mk (PySem.PyData.keyHash P (PySem.Str.ofString "__builtins__")) (PySem.Value.str (PySem.Str.ofString "__builtins__") (171 : Nat)) (PySem.Value.ref (4 : Nat))), (PySem.DictEntry.mk (PySem.PyData.keyHash P (PySem.Str.ofString "__file__")) (PySem.Value.str (PySem.Str.ofString "__file__") (173 : Nat)) (PySem.Value.str (PySem.Str.ofString "/claim/cut.py") (172 : Nat))), (PySem.DictEntry.mk (PySem.PyData.keyHash P (PySem.Str.ofString "__cached__")) (PySem.Value.str (PySem.Str.ofString "__cached__") (174 : Nat)) PySem.Value.none), (PySem.DictEntry.mk (PySem.PyData.keyHash P (PySem.Str.ofString "Circuit")) (PySem.Value.str (PySem.Str.ofString "Circuit") (329 : Nat)) (PySem.Value.ref (120 : Nat))), (PySem.DictEntry.mk (PySem.PyData.keyHash P (PySem.Str.ofString "_law_draw")) (PySem.Value.str (PySem.Str.ofString "_law_draw") (340 : Nat)) (PySem.Value.ref (131 : Nat))), (PySem.DictEntry.mk (PySem.PyData.keyHash P (PySem.Str.ofString "_law_gates")) (PySem.Value.str (PySem.Str.ofString "_law_gates") (352 : Nat)) (PySem.Value.ref (138 : Nat))), (PySem.DictEntry.mk (PySem.PyData.keyHash P (PySem.Str.ofString "_law_asked")) (PySem.Value.str (PySem.Str.ofString "_law_asked") (361 : Nat)) (PySem.Value.ref (145 : Nat))), (PySem.DictEntry.mk (PySem.PyData.keyHash P (PySem.Str.ofString "_law_said")) (PySem.Value.str (PySem.Str.ofString "_law_said") (369 : Nat)) (PySem.Value.ref (152 : Nat))), (PySem.DictEntry.mk (PySem.PyData.keyHash P (PySem.Str.ofString "_law_is_joined")) (PySem.Value.str (PySem.Str.ofString "_law_is_joined") (375 : Nat)) (PySem.Value.ref (157 : Nat))), (PySem.DictEntry.mk (PySem.PyData.keyHash P (PySem.Str.ofString "_law_is_settled")) (PySem.Value.str (PySem.Str.ofString "_law_is_settled") (381 : Nat)) (PySem.Value.ref (162 : Nat))), (PySem.DictEntry.mk (PySem.PyData.keyHash P (PySem.Str.ofString "_law_again")) (PySem.Value.str (PySem.Str.ofString "_law_again") (389 : Nat)) (PySem.Value.ref (169 : Nat))), (PySem.DictEntry.mk (PySem.PyData.keyHash P (PySem.Str.ofString "_law_truth")) (PySem.Value.str (PySem.Str.ofString "_law_truth") (398 : Nat)) (PySem.Value.ref (176 : Nat))), (PySem.DictEntry.mk (PySem.PyData.keyHash P (PySem.Str.ofString "_law_is_grown")) (PySem.Value.str (PySem.Str.ofString "_law_is_grown") (404 : Nat)) (PySem.Value.ref (181 : Nat))), (PySem.DictEntry.mk (PySem.PyData.keyHash P (PySem.Str.ofString "law")) (PySem.Value.str (PySem.Str.ofString "law") (410 : Nat)) (PySem.Value.ref (186 : Nat)))]) (20 : Nat)) (List.toArray []))) ::
   (@Prod.mk Nat PySem.Obj (nat_lit 22) (PySem.Obj.mk (PySem.Value.type "tuple") (@none Nat) (PySem.Data.seq (List.toArray []) (0 : Nat)) (List.toArray []))) ::
   (@Prod.mk Nat PySem.Obj (nat_lit 24) (PySem.Obj.mk (PySem.Value.type "tuple") (@none Nat) (PySem.Data.seq (List.toArray [(PySem.Value.str (PySem.Str.ofString "self") (204 : Nat))]) (0 : Nat)) (List.toArray []))) ::
   (@Prod.mk Nat PySem.Obj (nat_lit 25) (PySem.Obj.mk (PySem.Value.type "tuple") (@none Nat) (PySem.Data.seq (List.toArray []) (0 : Nat)) (List.toArray []))) ::
   (@Prod.mk Nat PySem.Obj (nat_lit 27) (PySem.Obj.mk (PySem.Value.type "code") (@none Nat) (PySem.Data.fields (List.toArray [(PySem.Value.str (PySem.Str.ofString "__init__") (201 : Nat)), (PySem.Value.str (PySem.Str.ofString "Circuit.__init__") (202 : Nat)), (PySem.Value.str (PySem.Str.ofString "/claim/cut.py") (203 : Nat)), (PySem.Value.int (4 : Int) (0 : Nat)), (PySem.Value.int (1 : Int) (0 : Nat)), (PySem.Value.int (0 : Int) (0 : Nat)), (PySem.Value.int (0 : Int) (0 : Nat)), (PySem.Value.int (3 : Int) (0 : Nat)), (PySem.Value.ref (22 : Nat)), (PySem.Value.bool Bool.true), (PySem.Value.int (181 : Int) (0 : Nat)), (PySem.Value.ref (23 : Nat)), PySem.Value.none, (PySem.Value.ref (24 : Nat)), (PySem.Value.ref (25 : Nat)), (PySem.Value.ref (26 : Nat)), (PySem.Value.int (205 : Int) (0 : Nat)), (PySem.Value.int (4 : Int) (0 : Nat)), (PySem.Value.str (PySem.Str.ofString "/claim/cut.py") (206 : Nat))])) (List.toArray []))) ::
   (@Prod.mk Nat PySem.Obj (nat_lit 28) (PySem.Obj.mk (PySem.Value.type "function") (@none Nat) (PySem.Data.func (FuncData.mk (PySem.Str.ofString "__init__") (PySem.Str.ofString "Circuit.__init__") (by refine' (?f : (b : Arguments) → hd.ar hd.cls 0 = b → Arguments) _ ?h; (case f => exact fun b _ => b); (case h => ((conv => lhs; whnf); (try exact rfl)))) (FuncBody.stmts (by refine' (?f : (b : List Stmt) → hd.bo hd.cls 0 = b → List Stmt) _ ?h; (case f => exact fun b _ => b); (case h => ((conv => lhs; whnf); (try exact rfl))))) (by refine' (?f : (b : Scope) → hd.sc hd.cls 0 = b → Scope) _ ?h; (case f => exact fun b _ => b); (case h => ((conv => lhs; whnf); (try exact rfl)))) (3 : Nat) (@List.nil (Prod.{0, 0} PySem.Str Nat)) PySem.Value.none PySem.Value.none PySem.Value.none (PySem.Value.str (PySem.Str.ofString "relfinder.circuit") (187 : Nat)) (@none Nat) (PySem.Value.ref (27 : Nat)) PySem.Value.none (0 : Nat))) (List.toArray []))) ::
   (@Prod.mk Nat PySem.Obj (nat_lit 29) (PySem.Obj.mk (PySem.Value.type "tuple") (@none Nat) (PySem.Data.seq (List.toArray []) (0 : Nat)) (List.toArray []))) ::
   (@Prod.mk Nat PySem.Obj (nat_lit 31) (PySem.Obj.mk (PySem.Value.type "tuple") (@none Nat) (PySem.Data.seq (List.toArray [(PySem.Value.str (PySem.Str.ofString "self") (211 : Nat))]) (0 : Nat)) (List.toArray []))) ::
   (@Prod.mk Nat PySem.Obj (nat_lit 32) (PySem.Obj.mk (PySem.Value.type "tuple") (@none Nat) (PySem.Data.seq (List.toArray []) (0 : Nat)) (List.toArray []))) ::
   (@Prod.mk Nat PySem.Obj (nat_lit 34) (PySem.Obj.mk (PySem.Value.type "code") (@none Nat) (PySem.Data.fields (List.toArray [(PySem.Value.str (PySem.Str.ofString "size") (208 : Nat)), (PySem.Value.str (PySem.Str.ofString "Circuit.size") (209 : Nat)), (PySem.Value.str (PySem.Str.ofString "/claim/cut.py") (210 : Nat)), (PySem.Value.int (9 : Int) (0 : Nat)), (PySem.Value.int (1 : Int) (0 : Nat)), (PySem.Value.int (0 : Int) (0 : Nat)), (PySem.Value.int (0 : Int) (0 : Nat)), (PySem.Value.int (3 : Int) (0 : Nat)), (PySem.Value.ref (29 : Nat)), (PySem.Value.bool Bool.true), (PySem.Value.int (181 : Int) (0 : Nat)), (PySem.Value.ref (30 : Nat)), PySem.Value.none, (PySem.Value.ref (31 : Nat)), (PySem.Value.ref (32 : Nat)), (PySem.Value.ref (33 : Nat)), (PySem.Value.int (212 : Int) (0 : Nat)), (PySem.Value.int (9 : Int) (0 : Nat)), (PySem.Value.str (PySem.Str.ofString "/claim/cut.py") (213 : Nat))])) (List.toArray []))) ::
   (@Prod.mk Nat PySem.Obj (nat_lit 35) (PySem.Obj.mk (PySem.Value.type "function") (@none Nat) (PySem.Data.func (FuncData.mk (PySem.Str.ofString "size") (PySem.Str.ofString "Circuit.size") (by refine' (?f : (b : Arguments) → hd.ar hd.cls 1 = b → Arguments) _ ?h; (case f => exact fun b _ => b); (case h => ((conv => lhs; whnf); (try exact rfl)))) (FuncBody.stmts (by refine' (?f : (b : List Stmt) → hd.bo hd.cls 1 = b → List Stmt) _ ?h; (case f => exact fun b _ => b); (case h => ((conv => lhs; whnf); (try exact rfl))))) (by refine' (?f : (b : Scope) → hd.sc hd.cls 1 = b → Scope) _ ?h; (case f => exact fun b _ => b); (case h => ((conv => lhs; whnf); (try exact rfl)))) (3 : Nat) (@List.nil (Prod.{0, 0} PySem.Str Nat)) PySem.Value.none PySem.Value.none PySem.Value.none (PySem.Value.str (PySem.Str.ofString "relfinder.circuit") (187 : Nat)) (@none Nat) (PySem.Value.ref (34 : Nat)) PySem.Value.none (0 : Nat))) (List.toArray []))) ::
   (@Prod.mk Nat PySem.Obj (nat_lit 36) (PySem.Obj.mk (PySem.Value.type "tuple") (@none Nat) (PySem.Data.seq (List.toArray []) (0 : Nat)) (List.toArray []))) ::
   (@Prod.mk Nat PySem.Obj (nat_lit 38) (PySem.Obj.mk (PySem.Value.type "tuple") (@none Nat) (PySem.Data.seq (List.toArray [(PySem.Value.str (PySem.Str.ofString "self") (218 : Nat)), (PySem.Value.str (PySem.Str.ofString "g") (219 : Nat))]) (0 : Nat)) (List.toArray []))) ::
   (@Prod.mk Nat PySem.Obj (nat_lit 39) (PySem.Obj.mk (PySem.Value.type "tuple") (@none Nat) (PySem.Data.seq (List.toArray []) (0 : Nat)) (List.toArray []))) ::
   (@Prod.mk Nat PySem.Obj (nat_lit 41) (PySem.Obj.mk (PySem.Value.type "code") (@none Nat) (PySem.Data.fields (List.toArray [(PySem.Value.str (PySem.Str.ofString "kind") (215 : Nat)), (PySem.Value.str (PySem.Str.ofString "Circuit.kind") (216 : Nat)), (PySem.Value.str (PySem.Str.ofString "/claim/cut.py") (217 : Nat)), (PySem.Value.int (12 : Int) (0 : Nat)), (PySem.Value.int (2 : Int) (0 : Nat)), (PySem.Value.int (0 : Int) (0 : Nat)), (PySem.Value.int (0 : Int) (0 : Nat)), (PySem.Value.int (3 : Int) (0 : Nat)), (PySem.Value.ref (36 : Nat)), (PySem.Value.bool Bool.true), (PySem.Value.int (181 : Int) (0 : Nat)), (PySem.Value.ref (37 : Nat)), PySem.Value.none, (PySem.Value.ref (38 : Nat)), (PySem.Value.ref (39 : Nat)), (PySem.Value.ref (40 : Nat)), (PySem.Value.int (220 : Int) (0 : Nat)), (PySem.Value.int (12 : Int) (0 : Nat)), (PySem.Value.str (PySem.Str.ofString "/claim/cut.py") (221 : Nat))])) (List.toArray []))) ::
   (@Prod.mk Nat PySem.Obj (nat_lit 42) (PySem.Obj.mk (PySem.Value.type "function") (@none Nat) (PySem.Data.func (FuncData.mk (PySem.Str.ofString "kind") (PySem.Str.ofString "Circuit.kind") (by refine' (?f : (b : Arguments) → hd.ar hd.cls 2 = b → Arguments) _ ?h; (case f => exact fun b _ => b); (case h => ((conv => lhs; whnf); (try exact rfl)))) (FuncBody.stmts (by refine' (?f : (b : List Stmt) → hd.bo hd.cls 2 = b → List Stmt) _ ?h; (case f => exact fun b _ => b); (case h => ((conv => lhs; whnf); (try exact rfl))))) (by refine' (?f : (b : Scope) → hd.sc hd.cls 2 = b → Scope) _ ?h; (case f => exact fun b _ => b); (case h => ((conv => lhs; whnf); (try exact rfl)))) (3 : Nat) (@List.nil (Prod.{0, 0} PySem.Str Nat)) PySem.Value.none PySem.Value.none PySem.Value.none (PySem.Value.str (PySem.Str.ofString "relfinder.circuit") (187 : Nat)) (@none Nat) (PySem.Value.ref (41 : Nat)) PySem.Value.none (0 : Nat))) (List.toArray []))) ::
   (@Prod.mk Nat PySem.Obj (nat_lit 43) (PySem.Obj.mk (PySem.Value.type "tuple") (@none Nat) (PySem.Data.seq (List.toArray []) (0 : Nat)) (List.toArray []))) ::
   (@Prod.mk Nat PySem.Obj (nat_lit 45) (PySem.Obj.mk (PySem.Value.type "tuple") (@none Nat) (PySem.Data.seq (List.toArray [(PySem.Value.str (PySem.Str.ofString "self") (226 : Nat)), (PySem.Value.str (PySem.Str.ofString "g") (227 : Nat))]) (0 : Nat)) (List.toArray []))) ::
   (@Prod.mk Nat PySem.Obj (nat_lit 46) (PySem.Obj.mk (PySem.Value.type "tuple") (@none Nat) (PySem.Data.seq (List.toArray []) (0 : Nat)) (List.toArray []))) ::
   (@Prod.mk Nat PySem.Obj (nat_lit 48) (PySem.Obj.mk (PySem.Value.type "code") (@none Nat) (PySem.Data.fields (List.toArray [(PySem.Value.str (PySem.Str.ofString "parts") (223 : Nat)), (PySem.Value.str (PySem.Str.ofString "Circuit.parts") (224 : Nat)), (PySem.Value.str (PySem.Str.ofString "/claim/cut.py") (225 : Nat)), (PySem.Value.int (15 : Int) (0 : Nat)), (PySem.Value.int (2 : Int) (0 : Nat)), (PySem.Value.int (0 : Int) (0 : Nat)), (PySem.Value.int (0 : Int) (0 : Nat)), (PySem.Value.int (3 : Int) (0 : Nat)), (PySem.Value.ref (43 : Nat)), (PySem.Value.bool Bool.true), (PySem.Value.int (181 : Int) (0 : Nat)), (PySem.Value.ref (44 : Nat)), PySem.Value.none, (PySem.Value.ref (45 : Nat)), (PySem.Value.ref (46 : Nat)), (PySem.Value.ref (47 : Nat)), (PySem.Value.int (228 : Int) (0 : Nat)), (PySem.Value.int (15 : Int) (0 : Nat)), (PySem.Value.str (PySem.Str.ofString "/claim/cut.py") (229 : Nat))])) (List.toArray []))) ::
   (@Prod.mk Nat PySem.Obj (nat_lit 49) (PySem.Obj.mk (PySem.Value.type "function") (@none Nat) (PySem.Data.func (FuncData.mk (PySem.Str.ofString "parts") (PySem.Str.ofString "Circuit.parts") (by refine' (?f : (b : Arguments) → hd.ar hd.cls 3 = b → Arguments) _ ?h; (case f => exact fun b _ => b); (case h => ((conv => lhs; whnf); (try exact rfl)))) (FuncBody.stmts (by refine' (?f : (b : List Stmt) → hd.bo hd.cls 3 = b → List Stmt) _ ?h; (case f => exact fun b _ => b); (case h => ((conv => lhs; whnf); (try exact rfl))))) (by refine' (?f : (b : Scope) → hd.sc hd.cls 3 = b → Scope) _ ?h; (case f => exact fun b _ => b); (case h => ((conv => lhs; whnf); (try exact rfl)))) (3 : Nat) (@List.nil (Prod.{0, 0} PySem.Str Nat)) PySem.Value.none PySem.Value.none PySem.Value.none (PySem.Value.str (PySem.Str.ofString "relfinder.circuit") (187 : Nat)) (@none Nat) (PySem.Value.ref (48 : Nat)) PySem.Value.none (0 : Nat))) (List.toArray []))) ::
   (@Prod.mk Nat PySem.Obj (nat_lit 50) (PySem.Obj.mk (PySem.Value.type "tuple") (@none Nat) (PySem.Data.seq (List.toArray []) (0 : Nat)) (List.toArray []))) ::
   (@Prod.mk Nat PySem.Obj (nat_lit 52) (PySem.Obj.mk (PySem.Value.type "tuple") (@none Nat) (PySem.Data.seq (List.toArray [(PySem.Value.str (PySem.Str.ofString "self") (234 : Nat)), (PySem.Value.str (PySem.Str.ofString "kind") (235 : Nat)), (PySem.Value.str (PySem.Str.ofString "parts") (236 : Nat))]) (0 : Nat)) (List.toArray []))) ::
   (@Prod.mk Nat PySem.Obj (nat_lit 53) (PySem.Obj.mk (PySem.Value.type "tuple") (@none Nat) (PySem.Data.seq (List.toArray []) (0 : Nat)) (List.toArray []))) ::
   (@Prod.mk Nat PySem.Obj (nat_lit 55) (PySem.Obj.mk (PySem.Value.type "code") (@none Nat) (PySem.Data.fields (List.toArray [(PySem.Value.str (PySem.Str.ofString "new_gate") (231 : Nat)), (PySem.Value.str (PySem.Str.ofString "Circuit.new_gate") (232 : Nat)), (PySem.Value.str (PySem.Str.ofString "/claim/cut.py") (233 : Nat)), (PySem.Value.int (18 : Int) (0 : Nat)), (PySem.Value.int (3 : Int) (0 : Nat)), (PySem.Value.int (0 : Int) (0 : Nat)), (PySem.Value.int (0 : Int) (0 : Nat)), (PySem.Value.int (3 : Int) (0 : Nat)), (PySem.Value.ref (50 : Nat)), (PySem.Value.bool Bool.true), (PySem.Value.int (181 : Int) (0 : Nat)), (PySem.Value.ref (51 : Nat)), PySem.Value.none, (PySem.Value.ref (52 : Nat)), (PySem.Value.ref (53 : Nat)), (PySem.Value.ref (54 : Nat)), (PySem.Value.int (237 : Int) (0 : Nat)), (PySem.Value.int (18 : Int) (0 : Nat)), (PySem.Value.str (PySem.Str.ofString "/claim/cut.py") (238 : Nat))])) (List.toArray []))) ::
   (@Prod.mk Nat PySem.Obj (nat_lit 56) (PySem.Obj.mk (PySem.Value.type "function") (@none Nat) (PySem.Data.func (FuncData.mk (PySem.Str.ofString "new_gate") (PySem.Str.ofString "Circuit.new_gate") (by refine' (?f : (b : Arguments) → hd.ar hd.cls 4 = b → Arguments) _ ?h; (case f => exact fun b _ => b); (case h => ((conv => lhs; whnf); (try exact rfl)))) (FuncBody.stmts (by refine' (?f : (b : List Stmt) → hd.bo hd.cls 4 = b → List Stmt) _ ?h; (case f => exact fun b _ => b); (case h => ((conv => lhs; whnf); (try exact rfl))))) (by refine' (?f : (b : Scope) → hd.sc hd.cls 4 = b → Scope) _ ?h; (case f => exact fun b _ => b); (case h => ((conv => lhs; whnf); (try exact rfl)))) (3 : Nat) (@List.nil (Prod.{0, 0} PySem.Str Nat)) PySem.Value.none PySem.Value.none PySem.Value.none (PySem.Value.str (PySem.Str.ofString "relfinder.circuit") (187 : Nat)) (@none Nat) (PySem.Value.ref (55 : Nat)) PySem.Value.none (0 : Nat))) (List.toArray []))) ::
   (@Prod.mk Nat PySem.Obj (nat_lit 57) (PySem.Obj.mk (PySem.Value.type "tuple") (@none Nat) (PySem.Data.seq (List.toArray []) (0 : Nat)) (List.toArray []))) ::
   (@Prod.mk Nat PySem.Obj (nat_lit 59) (PySem.Obj.mk (PySem.Value.type "tuple") (@none Nat) (PySem.Data.seq (List.toArray [(PySem.Value.str (PySem.Str.ofString "self") (243 : Nat))]) (0 : Nat)) (List.toArray []))) ::
   (@Prod.mk Nat PySem.Obj (nat_lit 60) (PySem.Obj.mk (PySem.Value.type "tuple") (@none Nat) (PySem.Data.seq (List.toArray []) (0 : Nat)) (List.toArray []))) ::
   (@Prod.mk Nat PySem.Obj (nat_lit 62) (PySem.Obj.mk (PySem.Value.type "code") (@none Nat) (PySem.Data.fields (List.toArray [(PySem.Value.str (PySem.Str.ofString "new_input") (240 : Nat)), (PySem.Value.str (PySem.Str.ofString "Circuit.new_input") (241 : Nat)), (PySem.Value.str (PySem.Str.ofString "/claim/cut.py") (242 : Nat)), (PySem.Value.int (23 : Int) (0 : Nat)), (PySem.Value.int (1 : Int) (0 : Nat)), (PySem.Value.int (0 : Int) (0 : Nat)), (PySem.Value.int (0 : Int) (0 : Nat)), (PySem.Value.int (3 : Int) (0 : Nat)), (PySem.Value.ref (57 : Nat)), (PySem.Value.bool Bool.true), (PySem.Value.int (181 : Int) (0 : Nat)), (PySem.Value.ref (58 : Nat)), PySem.Value.none, (PySem.Value.ref (59 : Nat)), (PySem.Value.ref (60 : Nat)), (PySem.Value.ref (61 : Nat)), (PySem.Value.int (244 : Int) (0 : Nat)), (PySem.Value.int (23 : Int) (0 : Nat)), (PySem.Value.str (PySem.Str.ofString "/claim/cut.py") (245 : Nat))])) (List.toArray []))) ::
   (@Prod.mk Nat PySem.Obj (nat_lit 63) (PySem.Obj.mk (PySem.Value.type "function") (@none Nat) (PySem.Data.func (FuncData.mk (PySem.Str.ofString "new_input") (PySem.Str.ofString "Circuit.new_input") (by refine' (?f : (b : Arguments) → hd.ar hd.cls 5 = b → Arguments) _ ?h; (case f => exact fun b _ => b); (case h => ((conv => lhs; whnf); (try exact rfl)))) (FuncBody.stmts (by refine' (?f : (b : List Stmt) → hd.bo hd.cls 5 = b → List Stmt) _ ?h; (case f => exact fun b _ => b); (case h => ((conv => lhs; whnf); (try exact rfl))))) (by refine' (?f : (b : Scope) → hd.sc hd.cls 5 = b → Scope) _ ?h; (case f => exact fun b _ => b); (case h => ((conv => lhs; whnf); (try exact rfl)))) (3 : Nat) (@List.nil (Prod.{0, 0} PySem.Str Nat)) PySem.Value.none PySem.Value.none PySem.Value.none (PySem.Value.str (PySem.Str.ofString "relfinder.circuit") (187 : Nat)) (@none Nat) (PySem.Value.ref (62 : Nat)) PySem.Value.none (0 : Nat))) (List.toArray []))) ::
   (@Prod.mk Nat PySem.Obj (nat_lit 64) (PySem.Obj.mk (PySem.Value.type "tuple") (@none Nat) (PySem.Data.seq (List.toArray []) (0 : Nat)) (List.toArray []))) ::
   (@Prod.mk Nat PySem.Obj (nat_lit 66) (PySem.Obj.mk (PySem.Value.type "tuple") (@none Nat) (PySem.Data.seq (List.toArray [(PySem.Value.str (PySem.Str.ofString "self") (250 : Nat)), (PySem.Value.str (PySem.Str.ofString "gates") (251 : Nat)), (PySem.Value.str (PySem.Str.ofString "found") (252 : Nat)), (PySem.Value.str (PySem.Str.ofString "g") (253 : Nat)), (PySem.Value.str (PySem.Str.ofString "parts") (254 : Nat))]) (0 : Nat)) (List.toArray []))) ::
   (@Prod.mk Nat PySem.Obj (nat_lit 67) (PySem.Obj.mk (PySem.Value.type "tuple") (@none Nat) (PySem.Data.seq (List.toArray []) (0 : Nat)) (List.toArray []))) ::
   (@Prod.mk Nat PySem.Obj (nat_lit 69) (PySem.Obj.mk (PySem.Value.type "code") (@none Nat) (PySem.Data.fields (List.toArray [(PySem.Value.str (PySem.Str.ofString "all_of") (247 : Nat)), (PySem.Value.str (PySem.Str.ofString "Circuit.all_of") (248 : Nat)), (PySem.Value.str (PySem.Str.ofString "/claim/cut.py") (249 : Nat)), (PySem.Value.int (26 : Int) (0 : Nat)), (PySem.Value.int (2 : Int) (0 : Nat)), (PySem.Value.int (0 : Int) (0 : Nat)), (PySem.Value.int (0 : Int) (0 : Nat)), (PySem.Value.int (3 : Int) (0 : Nat)), (PySem.Value.ref (64 : Nat)), (PySem.Value.bool Bool.true), (PySem.Value.int (181 : Int) (0 : Nat)), (PySem.Value.ref (65 : Nat)), PySem.Value.none, (PySem.Value.ref (66 : Nat)), (PySem.Value.ref (67 : Nat)), (PySem.Value.ref (68 : Nat)), (PySem.Value.int (255 : Int) (0 : Nat)), (PySem.Value.int (26 : Int) (0 : Nat)), (PySem.Value.str (PySem.Str.ofString "/claim/cut.py") (256 : Nat))])) (List.toArray []))) ::
   (@Prod.mk Nat PySem.Obj (nat_lit 70) (PySem.Obj.mk (PySem.Value.type "function") (@none Nat) (PySem.Data.func (FuncData.mk (PySem.Str.ofString "all_of") (PySem.Str.ofString "Circuit.all_of") (by refine' (?f : (b : Arguments) → hd.ar hd.cls 6 = b → Arguments) _ ?h; (case f => exact fun b _ => b); (case h => ((conv => lhs; whnf); (try exact rfl)))) (FuncBody.stmts (by refine' (?f : (b : List Stmt) → hd.bo hd.cls 6 = b → List Stmt) _ ?h; (case f => exact fun b _ => b); (case h => ((conv => lhs; whnf); (try exact rfl))))) (by refine' (?f : (b : Scope) → hd.sc hd.cls 6 = b → Scope) _ ?h; (case f => exact fun b _ => b); (case h => ((conv => lhs; whnf); (try exact rfl)))) (3 : Nat) (@List.nil (Prod.{0, 0} PySem.Str Nat)) PySem.Value.none PySem.Value.none PySem.Value.none (PySem.Value.str (PySem.Str.ofString "relfinder.circuit") (187 : Nat)) (@none Nat) (PySem.Value.ref (69 : Nat)) PySem.Value.none (0 : Nat))) (List.toArray []))) ::
   (@Prod.mk Nat PySem.Obj (nat_lit 71) (PySem.Obj.mk (PySem.Value.type "tuple") (@none Nat) (PySem.Data.seq (List.toArray []) (0 : Nat)) (List.toArray []))) ::
   (@Prod.mk Nat PySem.Obj (nat_lit 74) (PySem.Obj.mk (PySem.Value.type "code") (@none Nat) (PySem.Data.fields (List.toArray [(PySem.Value.str (PySem.Str.ofString "any_of") (258 : Nat)), (PySem.Value.str (PySem.Str.ofString "Circuit.any_of") (259 : Nat)), (PySem.Value.str (PySem.Str.ofString "/claim/cut.py") (260 : Nat)), (PySem.Value.int (40 : Int) (0 : Nat)), (PySem.Value.int (2 : Int) (0 : Nat)), (PySem.Value.int (0 : Int) (0 : Nat)), (PySem.Value.int (0 : Int) (0 : Nat)), (PySem.Value.int (3 : Int) (0 : Nat)), (PySem.Value.ref (71 : Nat)), (PySem.Value.bool Bool.true), (PySem.Value.int (181 : Int) (0 : Nat)), (PySem.Value.ref (72 : Nat)), PySem.Value.none, PySem.Value.none, PySem.Value.none, (PySem.Value.ref (73 : Nat)), (PySem.Value.int (261 : Int) (0 : Nat)), (PySem.Value.int (40 : Int) (0 : Nat)), (PySem.Value.str (PySem.Str.ofString "/claim/cut.py") (262 : Nat))])) (List.toArray []))) ::
   (@Prod.mk Nat PySem.Obj (nat_lit 75) (PySem.Obj.mk (PySem.Value.type "function") (@none Nat) (PySem.Data.func (FuncData.mk (PySem.Str.ofString "any_of") (PySem.Str.ofString "Circuit.any_of") (by refine' (?f : (b : Arguments) → hd.ar hd.cls 7 = b → Arguments) _ ?h; (case f => exact fun b _ => b); (case h => ((conv => lhs; whnf); (try exact rfl)))) (FuncBody.stmts (by refine' (?f : (b : List Stmt) → hd.bo hd.cls 7 = b → List Stmt) _ ?h; (case f => exact fun b _ => b); (case h => ((conv => lhs; whnf); (try exact rfl))))) (by refine' (?f : (b : Scope) → hd.sc hd.cls 7 = b → Scope) _ ?h; (case f => exact fun b _ => b); (case h => ((conv => lhs; whnf); (try exact rfl)))) (3 : Nat) (@List.nil (Prod.{0, 0} PySem.Str Nat)) PySem.Value.none PySem.Value.none PySem.Value.none (PySem.Value.str (PySem.Str.ofString "relfinder.circuit") (187 : Nat)) (@none Nat) (PySem.Value.ref (74 : Nat)) PySem.Value.none (0 : Nat))) (List.toArray []))) ::
   (@Prod.mk Nat PySem.Obj (nat_lit 76) (PySem.Obj.mk (PySem.Value.type "tuple") (@none Nat) (PySem.Data.seq (List.toArray []) (0 : Nat)) (List.toArray []))) ::
   (@Prod.mk Nat PySem.Obj (nat_lit 78) (PySem.Obj.mk (PySem.Value.type "tuple") (@none Nat) (PySem.Data.seq (List.toArray [(PySem.Value.str (PySem.Str.ofString "self") (267 : Nat)), (PySem.Value.str (PySem.Str.ofString "a") (268 : Nat)), (PySem.Value.str (PySem.Str.ofString "b") (269 : Nat))]) (0 : Nat)) (List.toArray []))) ::
   (@Prod.mk Nat PySem.Obj (nat_lit 79) (PySem.Obj.mk (PySem.Value.type "tuple") (@none Nat) (PySem.Data.seq (List.toArray []) (0 : Nat)) (List.toArray []))) ::
   (@Prod.mk Nat PySem.Obj (nat_lit 81) (PySem.Obj.mk (PySem.Value.type "code") (@none Nat) (PySem.Data.fields (List.toArray [(PySem.Value.str (PySem.Str.ofString "both") (264 : Nat)), (PySem.Value.str (PySem.Str.ofString "Circuit.both") (265 : Nat)), (PySem.Value.str (PySem.Str.ofString "/claim/cut.py") (266 : Nat)), (PySem.Value.int (43 : Int) (0 : Nat)), (PySem.Value.int (3 : Int) (0 : Nat)), (PySem.Value.int (0 : Int) (0 : Nat)), (PySem.Value.int (0 : Int) (0 : Nat)), (PySem.Value.int (3 : Int) (0 : Nat)), (PySem.Value.ref (76 : Nat)), (PySem.Value.bool Bool.true), (PySem.Value.int (181 : Int) (0 : Nat)), (PySem.Value.ref (77 : Nat)), PySem.Value.none, (PySem.Value.ref (78 : Nat)), (PySem.Value.ref (79 : Nat)), (PySem.Value.ref (80 : Nat)), (PySem.Value.int (270 : Int) (0 : Nat)), (PySem.Value.int (43 : Int) (0 : Nat)), (PySem.Value.str (PySem.Str.ofString "/claim/cut.py") (271 : Nat))])) (List.toArray []))) ::
   (@Prod.mk Nat PySem.Obj (nat_lit 82) (PySem.Obj.mk (PySem.Value.type "function") (@none Nat) (PySem.Data.func (FuncData.mk (PySem.Str.ofString "both") (PySem.Str.ofString "Circuit.both") (by refine' (?f : (b : Arguments) → hd.ar hd.cls 8 = b → Arguments) _ ?h; (case f => exact fun b _ => b); (case h => ((conv => lhs; whnf); (try exact rfl)))) (FuncBody.stmts (by refine' (?f : (b : List Stmt) → hd.bo hd.cls 8 = b → List Stmt) _ ?h; (case f => exact fun b _ => b); (case h => ((conv => lhs; whnf); (try exact rfl))))) (by refine' (?f : (b : Scope) → hd.sc hd.cls 8 = b → Scope) _ ?h; (case f => exact fun b _ => b); (case h => ((conv => lhs; whnf); (try exact rfl)))) (3 : Nat) (@List.nil (Prod.{0, 0} PySem.Str Nat)) PySem.Value.none PySem.Value.none PySem.Value.none (PySem.Value.str (PySem.Str.ofString "relfinder.circuit") (187 : Nat)) (@none Nat) (PySem.Value.ref (81 : Nat)) PySem.Value.none (0 : Nat))) (List.toArray []))) ::
   (@Prod.mk Nat PySem.Obj (nat_lit 83) (PySem.Obj.mk (PySem.Value.type "tuple") (@none Nat) (PySem.Data.seq (List.toArray []) (0 : Nat)) (List.toArray []))) ::
   (@Prod.mk Nat PySem.Obj (nat_lit 85) (PySem.Obj.mk (PySem.Value.type "tuple") (@none Nat) (PySem.Data.seq (List.toArray [(PySem.Value.str (PySem.Str.ofString "self") (276 : Nat)), (PySem.Value.str (PySem.Str.ofString "a") (277 : Nat)), (PySem.Value.str (PySem.Str.ofString "b") (278 : Nat))]) (0 : Nat)) (List.toArray []))) ::
   (@Prod.mk Nat PySem.Obj (nat_lit 86) (PySem.Obj.mk (PySem.Value.type "tuple") (@none Nat) (PySem.Data.seq (List.toArray []) (0 : Nat)) (List.toArray []))) ::
   (@Prod.mk Nat PySem.Obj (nat_lit 88) (PySem.Obj.mk (PySem.Value.type "code") (@none Nat) (PySem.Data.fields (List.toArray [(PySem.Value.str (PySem.Str.ofString "either") (273 : Nat)), (PySem.Value.str (PySem.Str.ofString "Circuit.either") (274 : Nat)), (PySem.Value.str (PySem.Str.ofString "/claim/cut.py") (275 : Nat)), (PySem.Value.int (46 : Int) (0 : Nat)), (PySem.Value.int (3 : Int) (0 : Nat)), (PySem.Value.int (0 : Int) (0 : Nat)), (PySem.Value.int (0 : Int) (0 : Nat)), (PySem.Value.int (3 : Int) (0 : Nat)), (PySem.Value.ref (83 : Nat)), (PySem.Value.bool Bool.true), (PySem.Value.int (181 : Int) (0 : Nat)), (PySem.Value.ref (84 : Nat)), PySem.Value.none, (PySem.Value.ref (85 : Nat)), (PySem.Value.ref (86 : Nat)), (PySem.Value.ref (87 : Nat)), (PySem.Value.int (279 : Int) (0 : Nat)), (PySem.Value.int (46 : Int) (0 : Nat)), (PySem.Value.str (PySem.Str.ofString "/claim/cut.py") (280 : Nat))])) (List.toArray []))) ::
   (@Prod.mk Nat PySem.Obj (nat_lit 89) (PySem.Obj.mk (PySem.Value.type "function") (@none Nat) (PySem.Data.func (FuncData.mk (PySem.Str.ofString "either") (PySem.Str.ofString "Circuit.either") (by refine' (?f : (b : Arguments) → hd.ar hd.cls 9 = b → Arguments) _ ?h; (case f => exact fun b _ => b); (case h => ((conv => lhs; whnf); (try exact rfl)))) (FuncBody.stmts (by refine' (?f : (b : List Stmt) → hd.bo hd.cls 9 = b → List Stmt) _ ?h; (case f => exact fun b _ => b); (case h => ((conv => lhs; whnf); (try exact rfl))))) (by refine' (?f : (b : Scope) → hd.sc hd.cls 9 = b → Scope) _ ?h; (case f => exact fun b _ => b); (case h => ((conv => lhs; whnf); (try exact rfl)))) (3 : Nat) (@List.nil (Prod.{0, 0} PySem.Str Nat)) PySem.Value.none PySem.Value.none PySem.Value.none (PySem.Value.str (PySem.Str.ofString "relfinder.circuit") (187 : Nat)) (@none Nat) (PySem.Value.ref (88 : Nat)) PySem.Value.none (0 : Nat))) (List.toArray []))) ::
   (@Prod.mk Nat PySem.Obj (nat_lit 90) (PySem.Obj.mk (PySem.Value.type "tuple") (@none Nat) (PySem.Data.seq (List.toArray []) (0 : Nat)) (List.toArray []))) ::
   (@Prod.mk Nat PySem.Obj (nat_lit 92) (PySem.Obj.mk (PySem.Value.type "tuple") (@none Nat) (PySem.Data.seq (List.toArray [(PySem.Value.str (PySem.Str.ofString "self") (285 : Nat)), (PySem.Value.str (PySem.Str.ofString "a") (286 : Nat)), (PySem.Value.str (PySem.Str.ofString "b") (287 : Nat))]) (0 : Nat)) (List.toArray []))) ::
   (@Prod.mk Nat PySem.Obj (nat_lit 93) (PySem.Obj.mk (PySem.Value.type "tuple") (@none Nat) (PySem.Data.seq (List.toArray []) (0 : Nat)) (List.toArray []))) ::
   (@Prod.mk Nat PySem.Obj (nat_lit 95) (PySem.Obj.mk (PySem.Value.type "code") (@none Nat) (PySem.Data.fields (List.toArray [(PySem.Value.str (PySem.Str.ofString "implies") (282 : Nat)), (PySem.Value.str (PySem.Str.ofString "Circuit.implies") (283 : Nat)), (PySem.Value.str (PySem.Str.ofString "/claim/cut.py") (284 : Nat)), (PySem.Value.int (49 : Int) (0 : Nat)), (PySem.Value.int (3 : Int) (0 : Nat)), (PySem.Value.int (0 : Int) (0 : Nat)), (PySem.Value.int (0 : Int) (0 : Nat)), (PySem.Value.int (3 : Int) (0 : Nat)), (PySem.Value.ref (90 : Nat)), (PySem.Value.bool Bool.true), (PySem.Value.int (181 : Int) (0 : Nat)), (PySem.Value.ref (91 : Nat)), PySem.Value.none, (PySem.Value.ref (92 : Nat)), (PySem.Value.ref (93 : Nat)), (PySem.Value.ref (94 : Nat)), (PySem.Value.int (288 : Int) (0 : Nat)), (PySem.Value.int (49 : Int) (0 : Nat)), (PySem.Value.str (PySem.Str.ofString "/claim/cut.py") (289 : Nat))])) (List.toArray []))) ::
   (@Prod.mk Nat PySem.Obj (nat_lit 96) (PySem.Obj.mk (PySem.Value.type "function") (@none Nat) (PySem.Data.func (FuncData.mk (PySem.Str.ofString "implies") (PySem.Str.ofString "Circuit.implies") (by refine' (?f : (b : Arguments) → hd.ar hd.cls 10 = b → Arguments) _ ?h; (case f => exact fun b _ => b); (case h => ((conv => lhs; whnf); (try exact rfl)))) (FuncBody.stmts (by refine' (?f : (b : List Stmt) → hd.bo hd.cls 10 = b → List Stmt) _ ?h; (case f => exact fun b _ => b); (case h => ((conv => lhs; whnf); (try exact rfl))))) (by refine' (?f : (b : Scope) → hd.sc hd.cls 10 = b → Scope) _ ?h; (case f => exact fun b _ => b); (case h => ((conv => lhs; whnf); (try exact rfl)))) (3 : Nat) (@List.nil (Prod.{0, 0} PySem.Str Nat)) PySem.Value.none PySem.Value.none PySem.Value.none (PySem.Value.str (PySem.Str.ofString "relfinder.circuit") (187 : Nat)) (@none Nat) (PySem.Value.ref (95 : Nat)) PySem.Value.none (0 : Nat))) (List.toArray []))) ::
   (@Prod.mk Nat PySem.Obj (nat_lit 97) (PySem.Obj.mk (PySem.Value.type "tuple") (@none Nat) (PySem.Data.seq (List.toArray []) (0 : Nat)) (List.toArray []))) ::
   (@Prod.mk Nat PySem.Obj (nat_lit 99) (PySem.Obj.mk (PySem.Value.type "tuple") (@none Nat) (PySem.Data.seq (List.toArray [(PySem.Value.str (PySem.Str.ofString "self") (294 : Nat)), (PySem.Value.str (PySem.Str.ofString "a") (295 : Nat)), (PySem.Value.str (PySem.Str.ofString "b") (296 : Nat))]) (0 : Nat)) (List.toArray []))) ::
   (@Prod.mk Nat PySem.Obj (nat_lit 100) (PySem.Obj.mk (PySem.Value.type "tuple") (@none Nat) (PySem.Data.seq (List.toArray []) (0 : Nat)) (List.toArray []))) ::
   (@Prod.mk Nat PySem.Obj (nat_lit 102) (PySem.Obj.mk (PySem.Value.type "code") (@none Nat) (PySem.Data.fields (List.toArray [(PySem.Value.str (PySem.Str.ofString "iff") (291 : Nat)), (PySem.Value.str (PySem.Str.ofString "Circuit.iff") (292 : Nat)), (PySem.Value.str (PySem.Str.ofString "/claim/cut.py") (293 : Nat)), (PySem.Value.int (52 : Int) (0 : Nat)), (PySem.Value.int (3 : Int) (0 : Nat)), (PySem.Value.int (0 : Int) (0 : Nat)), (PySem.Value.int (0 : Int) (0 : Nat)), (PySem.Value.int (3 : Int) (0 : Nat)), (PySem.Value.ref (97 : Nat)), (PySem.Value.bool Bool.true), (PySem.Value.int (181 : Int) (0 : Nat)), (PySem.Value.ref (98 : Nat)), PySem.Value.none, (PySem.Value.ref (99 : Nat)), (PySem.Value.ref (100 : Nat)), (PySem.Value.ref (101 : Nat)), (PySem.Value.int (297 : Int) (0 : Nat)), (PySem.Value.int (52 : Int) (0 : Nat)), (PySem.Value.str (PySem.Str.ofString "/claim/cut.py") (298 : Nat))])) (List.toArray []))) ::
   (@Prod.mk Nat PySem.Obj (nat_lit 103) (PySem.Obj.mk (PySem.Value.type "function") (@none Nat) (PySem.Data.func (FuncData.mk (PySem.Str.ofString "iff") (PySem.Str.ofString "Circuit.iff") (by refine' (?f : (b : Arguments) → hd.ar hd.cls 11 = b → Arguments) _ ?h; (case f => exact fun b _ => b); (case h => ((conv => lhs; whnf); (try exact rfl)))) (FuncBody.stmts (by refine' (?f : (b : List Stmt) → hd.bo hd.cls 11 = b → List Stmt) _ ?h; (case f => exact fun b _ => b); (case h => ((conv => lhs; whnf); (try exact rfl))))) (by refine' (?f : (b : Scope) → hd.sc hd.cls 11 = b → Scope) _ ?h; (case f => exact fun b _ => b); (case h => ((conv => lhs; whnf); (try exact rfl)))) (3 : Nat) (@List.nil (Prod.{0, 0} PySem.Str Nat)) PySem.Value.none PySem.Value.none PySem.Value.none (PySem.Value.str (PySem.Str.ofString "relfinder.circuit") (187 : Nat)) (@none Nat) (PySem.Value.ref (102 : Nat)) PySem.Value.none (0 : Nat))) (List.toArray []))) ::
   (@Prod.mk Nat PySem.Obj (nat_lit 104) (PySem.Obj.mk (PySem.Value.type "tuple") (@none Nat) (PySem.Data.seq (List.toArray []) (0 : Nat)) (List.toArray []))) ::
   (@Prod.mk Nat PySem.Obj (nat_lit 106) (PySem.Obj.mk (PySem.Value.type "tuple") (@none Nat) (PySem.Data.seq (List.toArray [(PySem.Value.str (PySem.Str.ofString "self") (303 : Nat)), (PySem.Value.str (PySem.Str.ofString "a") (304 : Nat)), (PySem.Value.str (PySem.Str.ofString "b") (305 : Nat))]) (0 : Nat)) (List.toArray []))) ::
   (@Prod.mk Nat PySem.Obj (nat_lit 107) (PySem.Obj.mk (PySem.Value.type "tuple") (@none Nat) (PySem.Data.seq (List.toArray []) (0 : Nat)) (List.toArray []))) ::
   (@Prod.mk Nat PySem.Obj (nat_lit 109) (PySem.Obj.mk (PySem.Value.type "code") (@none Nat) (PySem.Data.fields (List.toArray [(PySem.Value.str (PySem.Str.ofString "unlike") (300 : Nat)), (PySem.Value.str (PySem.Str.ofString "Circuit.unlike") (301 : Nat)), (PySem.Value.str (PySem.Str.ofString "/claim/cut.py") (302 : Nat)), (PySem.Value.int (55 : Int) (0 : Nat)), (PySem.Value.int (3 : Int) (0 : Nat)), (PySem.Value.int (0 : Int) (0 : Nat)), (PySem.Value.int (0 : Int) (0 : Nat)), (PySem.Value.int (3 : Int) (0 : Nat)), (PySem.Value.ref (104 : Nat)), (PySem.Value.bool Bool.true), (PySem.Value.int (181 : Int) (0 : Nat)), (PySem.Value.ref (105 : Nat)), PySem.Value.none, (PySem.Value.ref (106 : Nat)), (PySem.Value.ref (107 : Nat)), (PySem.Value.ref (108 : Nat)), (PySem.Value.int (306 : Int) (0 : Nat)), (PySem.Value.int (55 : Int) (0 : Nat)), (PySem.Value.str (PySem.Str.ofString "/claim/cut.py") (307 : Nat))])) (List.toArray []))) ::
   (@Prod.mk Nat PySem.Obj (nat_lit 110) (PySem.Obj.mk (PySem.Value.type "function") (@none Nat) (PySem.Data.func (FuncData.mk (PySem.Str.ofString "unlike") (PySem.Str.ofString "Circuit.unlike") (by refine' (?f : (b : Arguments) → hd.ar hd.cls 12 = b → Arguments) _ ?h; (case f => exact fun b _ => b); (case h => ((conv => lhs; whnf); (try exact rfl)))) (FuncBody.stmts (by refine' (?f : (b : List Stmt) → hd.bo hd.cls 12 = b → List Stmt) _ ?h; (case f => exact fun b _ => b); (case h => ((conv => lhs; whnf); (try exact rfl))))) (by refine' (?f : (b : Scope) → hd.sc hd.cls 12 = b → Scope) _ ?h; (case f => exact fun b _ => b); (case h => ((conv => lhs; whnf); (try exact rfl)))) (3 : Nat) (@List.nil (Prod.{0, 0} PySem.Str Nat)) PySem.Value.none PySem.Value.none PySem.Value.none (PySem.Value.str (PySem.Str.ofString "relfinder.circuit") (187 : Nat)) (@none Nat) (PySem.Value.ref (109 : Nat)) PySem.Value.none (0 : Nat))) (List.toArray []))) ::
   (@Prod.mk Nat PySem.Obj (nat_lit 111) (PySem.Obj.mk (PySem.Value.type "tuple") (@none Nat) (PySem.Data.seq (List.toArray []) (0 : Nat)) (List.toArray []))) ::
   (@Prod.mk Nat PySem.Obj (nat_lit 113) (PySem.Obj.mk (PySem.Value.type "tuple") (@none Nat) (PySem.Data.seq (List.toArray [(PySem.Value.str (PySem.Str.ofString "self") (312 : Nat)), (PySem.Value.str (PySem.Str.ofString "c") (313 : Nat)), (PySem.Value.str (PySem.Str.ofString "a") (314 : Nat)), (PySem.Value.str (PySem.Str.ofString "b") (315 : Nat))]) (0 : Nat)) (List.toArray []))) ::
   (@Prod.mk Nat PySem.Obj (nat_lit 114) (PySem.Obj.mk (PySem.Value.type "tuple") (@none Nat) (PySem.Data.seq (List.toArray []) (0 : Nat)) (List.toArray []))) ::
   (@Prod.mk Nat PySem.Obj (nat_lit 116) (PySem.Obj.mk (PySem.Value.type "code") (@none Nat) (PySem.Data.fields (List.toArray [(PySem.Value.str (PySem.Str.ofString "choose") (309 : Nat)), (PySem.Value.str (PySem.Str.ofString "Circuit.choose") (310 : Nat)), (PySem.Value.str (PySem.Str.ofString "/claim/cut.py") (311 : Nat)), (PySem.Value.int (58 : Int) (0 : Nat)), (PySem.Value.int (4 : Int) (0 : Nat)), (PySem.Value.int (0 : Int) (0 : Nat)), (PySem.Value.int (0 : Int) (0 : Nat)), (PySem.Value.int (3 : Int) (0 : Nat)), (PySem.Value.ref (111 : Nat)), (PySem.Value.bool Bool.true), (PySem.Value.int (181 : Int) (0 : Nat)), (PySem.Value.ref (112 : Nat)), PySem.Value.none, (PySem.Value.ref (113 : Nat)), (PySem.Value.ref (114 : Nat)), (PySem.Value.ref (115 : Nat)), (PySem.Value.int (316 : Int) (0 : Nat)), (PySem.Value.int (58 : Int) (0 : Nat)), (PySem.Value.str (PySem.Str.ofString "/claim/cut.py") (317 : Nat))])) (List.toArray []))) ::
   (@Prod.mk Nat PySem.Obj (nat_lit 117) (PySem.Obj.mk (PySem.Value.type "function") (@none Nat) (PySem.Data.func (FuncData.mk (PySem.Str.ofString "choose") (PySem.Str.ofString "Circuit.choose") (by refine' (?f : (b : Arguments) → hd.ar hd.cls 13 = b → Arguments) _ ?h; (case f => exact fun b _ => b); (case h => ((conv => lhs; whnf); (try exact rfl)))) (FuncBody.stmts (by refine' (?f : (b : List Stmt) → hd.bo hd.cls 13 = b → List Stmt) _ ?h; (case f => exact fun b _ => b); (case h => ((conv => lhs; whnf); (try exact rfl))))) (by refine' (?f : (b : Scope) → hd.sc hd.cls 13 = b → Scope) _ ?h; (case f => exact fun b _ => b); (case h => ((conv => lhs; whnf); (try exact rfl)))) (3 : Nat) (@List.nil (Prod.{0, 0} PySem.Str Nat)) PySem.Value.none PySem.Value.none PySem.Value.none (PySem.Value.str (PySem.Str.ofString "relfinder.circuit") (187 : Nat)) (@none Nat) (PySem.Value.ref (116 : Nat)) PySem.Value.none (0 : Nat))) (List.toArray []))) ::
   (@Prod.mk Nat PySem.Obj (nat_lit 118) (PySem.Obj.mk (PySem.Value.type "tuple") (@none Nat) (PySem.Data.seq (List.toArray [(PySem.Value.str (PySem.Str.ofString "kinds") (319 : Nat)), (PySem.Value.str (PySem.Str.ofString "known") (320 : Nat)), (PySem.Value.str (PySem.Str.ofString "parts_now") (321 : Nat))]) (0 : Nat)) (List.toArray []))) ::
   (@Prod.mk Nat PySem.Obj (nat_lit 119) (PySem.Obj.mk (PySem.Value.type "dict") (@none Nat) (PySem.Data.dict (List.toArray [(PySem.DictEntry.mk (PySem.PyData.keyHash P (PySem.Str.ofString "__module__")) (PySem.Value.str (PySem.Str.ofString "__module__") (196 : Nat)) (PySem.Value.str (PySem.Str.ofString "relfinder.circuit") (187 : Nat))), (PySem.DictEntry.mk (PySem.PyData.keyHash P (PySem.Str.ofString "__firstlineno__")) (PySem.Value.str (PySem.Str.ofString "__firstlineno__") (200 : Nat)) (PySem.Value.int (2 : Int) (199 : Nat))), (PySem.DictEntry.mk (PySem.PyData.keyHash P (PySem.Str.ofString "__init__")) (PySem.Value.str (PySem.Str.ofString "__init__") (207 : Nat)) (PySem.Value.ref (28 : Nat))), (PySem.DictEntry.mk (PySem.PyData.keyHash P (PySem.Str.ofString "size")) (PySem.Value.str (PySem.Str.ofString "size") (214 : Nat)) (PySem.Value.ref (35 : Nat))), (PySem.DictEntry.mk (PySem.PyData.keyHash P (PySem.Str.ofString "kind")) (PySem.Value.str (PySem.Str.ofString "kind") (222 : Nat)) (PySem.Value.ref (42 : Nat))), (PySem.DictEntry.mk (PySem.PyData.keyHash P (PySem.Str.ofString "parts")) (PySem.Value.str (PySem.Str.ofString "parts") (230 : Nat)) (PySem.Value.ref (49 : Nat))), (PySem.DictEntry.mk (PySem.PyData.keyHash P (PySem.Str.ofString "new_gate")) (PySem.Value.str (PySem.Str.ofString "new_gate") (239 : Nat)) (PySem.Value.ref (56 : Nat))), (PySem.DictEntry.mk (PySem.PyData.keyHash P (PySem.Str.ofString "new_input")) (PySem.Value.str (PySem.Str.ofString "new_input") (246 : Nat)) (PySem.Value.ref (63 : Nat))), (PySem.DictEntry.mk (PySem.PyData.keyHash P (PySem.Str.ofString "all_of")) (PySem.Value.str (PySem.Str.ofString "all_of") (257 : Nat)) (PySem.Value.ref (70 : Nat))), (PySem.DictEntry.mk (PySem.PyData.keyHash P (PySem.Str.ofString "any_of")) (PySem.Value.str (PySem.Str.ofString "any_of") (263 : Nat)) (PySem.Value.ref (75 : Nat))), (PySem.DictEntry.mk (PySem.PyData.keyHash P (PySem.Str.ofString "both")) (PySem.Value.str (PySem.Str.ofString "both") (272 : Nat)) (PySem.Value.ref (82 : Nat))), (PySem.DictEntry.mk (PySem.PyData.keyHash P (PySem.Str.ofString "either")) (PySem.Value.str (PySem.Str.ofString "either") (281 : Nat)) (PySem.Value.ref (89 : Nat))), (PySem.DictEntry.mk (PySem.PyData.keyHash P (PySem.Str.ofString "implies")) (PySem.Value.str (PySem.Str.ofString "implies") (290 : Nat)) (PySem.Value.ref (96 : Nat))), (PySem.DictEntry.mk (PySem.PyData.keyHash P (PySem.Str.ofString "iff")) (PySem.Value.str (PySem.Str.ofString "iff") (299 : Nat)) (PySem.Value.ref (103 : Nat))), (PySem.DictEntry.mk (PySem.PyData.keyHash P (PySem.Str.ofString "unlike")) (PySem.Value.str (PySem.Str.ofString "unlike") (308 : Nat)) (PySem.Value.ref (110 : Nat))), (PySem.DictEntry.mk (PySem.PyData.keyHash P (PySem.Str.ofString "choose")) (PySem.Value.str (PySem.Str.ofString "choose") (318 : Nat)) (PySem.Value.ref (117 : Nat))), (PySem.DictEntry.mk (PySem.PyData.keyHash P (PySem.Str.ofString "__static_attributes__")) (PySem.Value.str (PySem.Str.ofString "__static_attributes__") (322 : Nat)) (PySem.Value.ref (118 : Nat))), (PySem.DictEntry.mk (PySem.PyData.keyHash P (PySem.Str.ofString "__dict__")) (PySem.Value.str (PySem.Str.ofString "__dict__") (324 : Nat)) (PySem.Value.ref (121 : Nat))), (PySem.DictEntry.mk (PySem.PyData.keyHash P (PySem.Str.ofString "__weakref__")) (PySem.Value.str (PySem.Str.ofString "__weakref__") (326 : Nat)) (PySem.Value.ref (122 : Nat))), (PySem.DictEntry.mk (PySem.PyData.keyHash P (PySem.Str.ofString "__doc__")) (PySem.Value.str (PySem.Str.ofString "__doc__") (327 : Nat)) PySem.Value.none)]) (4 : Nat)) (List.toArray []))) ::
   (@Prod.mk Nat PySem.Obj (nat_lit 120) (PySem.Obj.mk (PySem.Value.type "type") (@none Nat) (PySem.Data.cls (PySem.ClassData.mk (PySem.Str.ofString "Circuit") [(PySem.Value.type "object")] [(PySem.Value.ref (120 : Nat)), (PySem.Value.type "object")] (119 : Nat) (PySem.Str.ofString "Circuit") Bool.true [] [] Bool.false (Option.none) Bool.false)) (List.toArray [(Option.none), (Option.none), (Option.some (PySem.Value.str (PySem.Str.ofString "Circuit") (189 : Nat))), (Option.some (PySem.Value.str (PySem.Str.ofString "Circuit") (197 : Nat))), (Option.some (PySem.Value.builtin "object.__new__")), (Option.some (PySem.Value.bool Bool.true))]))) ::
   (@Prod.mk Nat PySem.Obj (nat_lit 121) (PySem.Obj.mk (PySem.Value.type "getset_descriptor") (@none Nat) (PySem.Data.fields (List.toArray [(PySem.Value.str (PySem.Str.ofString "__dict__") (323 : Nat)), (PySem.Value.ref (120 : Nat)), (PySem.Value.builtin "function.__dict__"), (PySem.Value.builtin "function.__dict__#set")])) (List.toArray []))) ::
   (@Prod.mk Nat PySem.Obj (nat_lit 122) (PySem.Obj.mk (PySem.Value.type "getset_descriptor") (@none Nat) (PySem.Data.fields (List.toArray [(PySem.Value.str (PySem.Str.ofString "__weakref__") (325 : Nat)), (PySem.Value.ref (120 : Nat)), (PySem.Value.builtin "ExceptionGroup.__weakref__"), PySem.Value.none])) (List.toArray []))) ::
   (@Prod.mk Nat PySem.Obj (nat_lit 125) (PySem.Obj.mk (PySem.Value.type "tuple") (@none Nat) (PySem.Data.seq (List.toArray []) (0 : Nat)) (List.toArray []))) ::
   (@Prod.mk Nat PySem.Obj (nat_lit 127) (PySem.Obj.mk (PySem.Value.type "tuple") (@none Nat) (PySem.Data.seq (List.toArray [(PySem.Value.str (PySem.Str.ofString "feed") (335 : Nat)), (PySem.Value.str (PySem.Str.ofString "many") (336 : Nat)), (PySem.Value.str (PySem.Str.ofString "k") (337 : Nat))]) (0 : Nat)) (List.toArray []))) ::
   (@Prod.mk Nat PySem.Obj (nat_lit 128) (PySem.Obj.mk (PySem.Value.type "tuple") (@none Nat) (PySem.Data.seq (List.toArray []) (0 : Nat)) (List.toArray []))) ::
   (@Prod.mk Nat PySem.Obj (nat_lit 130) (PySem.Obj.mk (PySem.Value.type "code") (@none Nat) (PySem.Data.fields (List.toArray [(PySem.Value.str (PySem.Str.ofString "_law_draw") (332 : Nat)), (PySem.Value.str (PySem.Str.ofString "_law_draw") (333 : Nat)), (PySem.Value.str (PySem.Str.ofString "/claim/cut.py") (334 : Nat)), (PySem.Value.int (61 : Int) (0 : Nat)), (PySem.Value.int (2 : Int) (0 : Nat)), (PySem.Value.int (0 : Int) (0 : Nat)), (PySem.Value.int (0 : Int) (0 : Nat)), (PySem.Value.int (3 : Int) (0 : Nat)), (PySem.Value.ref (125 : Nat)), (PySem.Value.bool Bool.true), (PySem.Value.int (181 : Int) (0 : Nat)), (PySem.Value.ref (126 : Nat)), PySem.Value.none, (PySem.Value.ref (127 : Nat)), (PySem.Value.ref (128 : Nat)), (PySem.Value.ref (129 : Nat)), (PySem.Value.int (338 : Int) (0 : Nat)), (PySem.Value.int (61 : Int) (0 : Nat)), (PySem.Value.str (PySem.Str.ofString "/claim/cut.py") (339 : Nat))])) (List.toArray []))) ::
   (@Prod.mk Nat PySem.Obj (nat_lit 131) (PySem.Obj.mk (PySem.Value.type "function") (@none Nat) (PySem.Data.func (FuncData.mk (PySem.Str.ofString "_law_draw") (PySem.Str.ofString "_law_draw") (by refine' (?f : (b : Arguments) → hd.ar hd.top 3 = b → Arguments) _ ?h; (case f => exact fun b _ => b); (case h => ((conv => lhs; whnf); (try exact rfl)))) (FuncBody.stmts (by refine' (?f : (b : List Stmt) → hd.bo hd.top 3 = b → List Stmt) _ ?h; (case f => exact fun b _ => b); (case h => ((conv => lhs; whnf); (try exact rfl))))) (by refine' (?f : (b : Scope) → hd.sc hd.top 3 = b → Scope) _ ?h; (case f => exact fun b _ => b); (case h => ((conv => lhs; whnf); (try exact rfl)))) (3 : Nat) (@List.nil (Prod.{0, 0} PySem.Str Nat)) PySem.Value.none PySem.Value.none PySem.Value.none (PySem.Value.str (PySem.Str.ofString "law_nu0265_01") (330 : Nat)) (@none Nat) (PySem.Value.ref (130 : Nat)) PySem.Value.none (0 : Nat))) (List.toArray []))) ::
   (@Prod.mk Nat PySem.Obj (nat_lit 132) (PySem.Obj.mk (PySem.Value.type "tuple") (@none Nat) (PySem.Data.seq (List.toArray []) (0 : Nat)) (List.toArray []))) ::
   (@Prod.mk Nat PySem.Obj (nat_lit 134) (PySem.Obj.mk (PySem.Value.type "tuple") (@none Nat) (PySem.Data.seq (List.toArray [(PySem.Value.str (PySem.Str.ofString "feed") (344 : Nat)), (PySem.Value.str (PySem.Str.ofString "some") (345 : Nat)), (PySem.Value.str (PySem.Str.ofString "many") (346 : Nat)), (PySem.Value.str (PySem.Str.ofString "found") (347 : Nat)), (PySem.Value.str (PySem.Str.ofString "lap") (348 : Nat)), (PySem.Value.str (PySem.Str.ofString "g") (349 : Nat))]) (0 : Nat)) (List.toArray []))) ::
   (@Prod.mk Nat PySem.Obj (nat_lit 135) (PySem.Obj.mk (PySem.Value.type "tuple") (@none Nat) (PySem.Data.seq (List.toArray []) (0 : Nat)) (List.toArray []))) ::
   (@Prod.mk Nat PySem.Obj (nat_lit 137) (PySem.Obj.mk (PySem.Value.type "code") (@none Nat) (PySem.Data.fields (List.toArray [(PySem.Value.str (PySem.Str.ofString "_law_gates") (341 : Nat)), (PySem.Value.str (PySem.Str.ofString "_law_gates") (342 : Nat)), (PySem.Value.str (PySem.Str.ofString "/claim/cut.py") (343 : Nat)), (PySem.Value.int (67 : Int) (0 : Nat)), (PySem.Value.int (3 : Int) (0 : Nat)), (PySem.Value.int (0 : Int) (0 : Nat)), (PySem.Value.int (0 : Int) (0 : Nat)), (PySem.Value.int (3 : Int) (0 : Nat)), (PySem.Value.ref (132 : Nat)), (PySem.Value.bool Bool.true), (PySem.Value.int (181 : Int) (0 : Nat)), (PySem.Value.ref (133 : Nat)), PySem.Value.none, (PySem.Value.ref (134 : Nat)), (PySem.Value.ref (135 : Nat)), (PySem.Value.ref (136 : Nat)), (PySem.Value.int (350 : Int) (0 : Nat)), (PySem.Value.int (67 : Int) (0 : Nat)), (PySem.Value.str (PySem.Str.ofString "/claim/cut.py") (351 : Nat))])) (List.toArray []))) ::
   (@Prod.mk Nat PySem.Obj (nat_lit 138) (PySem.Obj.mk (PySem.Value.type "function") (@none Nat) (PySem.Data.func (FuncData.mk (PySem.Str.ofString "_law_gates") (PySem.Str.ofString "_law_gates") (by refine' (?f : (b : Arguments) → hd.ar hd.top 4 = b → Arguments) _ ?h; (case f => exact fun b _ => b); (case h => ((conv => lhs; whnf); (try exact rfl)))) (FuncBody.stmts (by refine' (?f : (b : List Stmt) → hd.bo hd.top 4 = b → List Stmt) _ ?h; (case f => exact fun b _ => b); (case h => ((conv => lhs; whnf); (try exact rfl))))) (by refine' (?f : (b : Scope) → hd.sc hd.top 4 = b → Scope) _ ?h; (case f => exact fun b _ => b); (case h => ((conv => lhs; whnf); (try exact rfl)))) (3 : Nat) (@List.nil (Prod.{0, 0} PySem.Str Nat)) PySem.Value.none PySem.Value.none PySem.Value.none (PySem.Value.str (PySem.Str.ofString "law_nu0265_01") (330 : Nat)) (@none Nat) (PySem.Value.ref (137 : Nat)) PySem.Value.none (0 : Nat))) (List.toArray []))) ::
   (@Prod.mk Nat PySem.Obj (nat_lit 139) (PySem.Obj.mk (PySem.Value.type "tuple") (@none Nat) (PySem.Data.seq (List.toArray []) (0 : Nat)) (List.toArray []))) ::
   (@Prod.mk Nat PySem.Obj (nat_lit 141) (PySem.Obj.mk (PySem.Value.type "tuple") (@none Nat) (PySem.Data.seq (List.toArray [(PySem.Value.str (PySem.Str.ofString "net") (356 : Nat)), (PySem.Value.str (PySem.Str.ofString "kind") (357 : Nat)), (PySem.Value.str (PySem.Str.ofString "args") (358 : Nat))]) (0 : Nat)) (List.toArray []))) ::
   (@Prod.mk Nat PySem.Obj (nat_lit 142) (PySem.Obj.mk (PySem.Value.type "tuple") (@none Nat) (PySem.Data.seq (List.toArray []) (0 : Nat)) (List.toArray []))) ::
   (@Prod.mk Nat PySem.Obj (nat_lit 144) (PySem.Obj.mk (PySem.Value.type "code") (@none Nat) (PySem.Data.fields (List.toArray [(PySem.Value.str (PySem.Str.ofString "_law_asked") (353 : Nat)), (PySem.Value.str (PySem.Str.ofString "_law_asked") (354 : Nat)), (PySem.Value.str (PySem.Str.ofString "/claim/cut.py") (355 : Nat)), (PySem.Value.int (73 : Int) (0 : Nat)), (PySem.Value.int (3 : Int) (0 : Nat)), (PySem.Value.int (0 : Int) (0 : Nat)), (PySem.Value.int (0 : Int) (0 : Nat)), (PySem.Value.int (3 : Int) (0 : Nat)), (PySem.Value.ref (139 : Nat)), (PySem.Value.bool Bool.true), (PySem.Value.int (181 : Int) (0 : Nat)), (PySem.Value.ref (140 : Nat)), PySem.Value.none, (PySem.Value.ref (141 : Nat)), (PySem.Value.ref (142 : Nat)), (PySem.Value.ref (143 : Nat)), (PySem.Value.int (359 : Int) (0 : Nat)), (PySem.Value.int (73 : Int) (0 : Nat)), (PySem.Value.str (PySem.Str.ofString "/claim/cut.py") (360 : Nat))])) (List.toArray []))) ::
   (@Prod.mk Nat PySem.Obj (nat_lit 145) (PySem.Obj.mk (PySem.Value.type "function") (@none Nat) (PySem.Data.func (FuncData.mk (PySem.Str.ofString "_law_asked") (PySem.Str.ofString "_law_asked") (by refine' (?f : (b : Arguments) → hd.ar hd.top 5 = b → Arguments) _ ?h; (case f => exact fun b _ => b); (case h => ((conv => lhs; whnf); (try exact rfl)))) (FuncBody.stmts (by refine' (?f : (b : List Stmt) → hd.bo hd.top 5 = b → List Stmt) _ ?h; (case f => exact fun b _ => b); (case h => ((conv => lhs; whnf); (try exact rfl))))) (by refine' (?f : (b : Scope) → hd.sc hd.top 5 = b → Scope) _ ?h; (case f => exact fun b _ => b); (case h => ((conv => lhs; whnf); (try exact rfl)))) (3 : Nat) (@List.nil (Prod.{0, 0} PySem.Str Nat)) PySem.Value.none PySem.Value.none PySem.Value.none (PySem.Value.str (PySem.Str.ofString "law_nu0265_01") (330 : Nat)) (@none Nat) (PySem.Value.ref (144 : Nat)) PySem.Value.none (0 : Nat))) (List.toArray []))) ::
   (@Prod.mk Nat PySem.Obj (nat_lit 146) (PySem.Obj.mk (PySem.Value.type "tuple") (@none Nat) (PySem.Data.seq (List.toArray []) (0 : Nat)) (List.toArray []))) ::
   (@Prod.mk Nat PySem.Obj (nat_lit 148) (PySem.Obj.mk (PySem.Value.type "tuple") (@none Nat) (PySem.Data.seq (List.toArray [(PySem.Value.str (PySem.Str.ofString "kind") (365 : Nat)), (PySem.Value.str (PySem.Str.ofString "truths") (366 : Nat))]) (0 : Nat)) (List.toArray []))) ::
   (@Prod.mk Nat PySem.Obj (nat_lit 149) (PySem.Obj.mk (PySem.Value.type "tuple") (@none Nat) (PySem.Data.seq (List.toArray []) (0 : Nat)) (List.toArray []))) ::
   (@Prod.mk Nat PySem.Obj (nat_lit 151) (PySem.Obj.mk (PySem.Value.type "code") (@none Nat) (PySem.Data.fields (List.toArray [(PySem.Value.str (PySem.Str.ofString "_law_said") (362 : Nat)), (PySem.Value.str (PySem.Str.ofString "_law_said") (363 : Nat)), (PySem.Value.str (PySem.Str.ofString "/claim/cut.py") (364 : Nat)), (PySem.Value.int (89 : Int) (0 : Nat)), (PySem.Value.int (2 : Int) (0 : Nat)), (PySem.Value.int (0 : Int) (0 : Nat)), (PySem.Value.int (0 : Int) (0 : Nat)), (PySem.Value.int (3 : Int) (0 : Nat)), (PySem.Value.ref (146 : Nat)), (PySem.Value.bool Bool.true), (PySem.Value.int (181 : Int) (0 : Nat)), (PySem.Value.ref (147 : Nat)), PySem.Value.none, (PySem.Value.ref (148 : Nat)), (PySem.Value.ref (149 : Nat)), (PySem.Value.ref (150 : Nat)), (PySem.Value.int (367 : Int) (0 : Nat)), (PySem.Value.int (89 : Int) (0 : Nat)), (PySem.Value.str (PySem.Str.ofString "/claim/cut.py") (368 : Nat))])) (List.toArray []))) ::
   (@Prod.mk Nat PySem.Obj (nat_lit 152) (PySem.Obj.mk (PySem.Value.type "function") (@none Nat) (PySem.Data.func (FuncData.mk (PySem.Str.ofString "_law_said") (PySem.Str.ofString "_law_said") (by refine' (?f : (b : Arguments) → hd.ar hd.top 6 = b → Arguments) _ ?h; (case f => exact fun b _ => b); (case h => ((conv => lhs; whnf); (try exact rfl)))) (FuncBody.stmts (by refine' (?f : (b : List Stmt) → hd.bo hd.top 6 = b → List Stmt) _ ?h; (case f => exact fun b _ => b); (case h => ((conv => lhs; whnf); (try exact rfl))))) (by refine' (?f : (b : Scope) → hd.sc hd.top 6 = b → Scope) _ ?h; (case f => exact fun b _ => b); (case h => ((conv => lhs; whnf); (try exact rfl)))) (3 : Nat) (@List.nil (Prod.{0, 0} PySem.Str Nat)) PySem.Value.none PySem.Value.none PySem.Value.none (PySem.Value.str (PySem.Str.ofString "law_nu0265_01") (330 : Nat)) (@none Nat) (PySem.Value.ref (151 : Nat)) PySem.Value.none (0 : Nat))) (List.toArray []))) ::
   (@Prod.mk Nat PySem.Obj (nat_lit 153) (PySem.Obj.mk (PySem.Value.type "tuple") (@none Nat) (PySem.Data.seq (List.toArray []) (0 : Nat)) (List.toArray []))) ::
   (@Prod.mk Nat PySem.Obj (nat_lit 156) (PySem.Obj.mk (PySem.Value.type "code") (@none Nat) (PySem.Data.fields (List.toArray [(PySem.Value.str (PySem.Str.ofString "_law_is_joined") (370 : Nat)), (PySem.Value.str (PySem.Str.ofString "_law_is_joined") (371 : Nat)), (PySem.Value.str (PySem.Str.ofString "/claim/cut.py") (372 : Nat)), (PySem.Value.int (99 : Int) (0 : Nat)), (PySem.Value.int (3 : Int) (0 : Nat)), (PySem.Value.int (0 : Int) (0 : Nat)), (PySem.Value.int (0 : Int) (0 : Nat)), (PySem.Value.int (3 : Int) (0 : Nat)), (PySem.Value.ref (153 : Nat)), (PySem.Value.bool Bool.true), (PySem.Value.int (181 : Int) (0 : Nat)), (PySem.Value.ref (154 : Nat)), PySem.Value.none, PySem.Value.none, PySem.Value.none, (PySem.Value.ref (155 : Nat)), (PySem.Value.int (373 : Int) (0 : Nat)), (PySem.Value.int (99 : Int) (0 : Nat)), (PySem.Value.str (PySem.Str.ofString "/claim/cut.py") (374 : Nat))])) (List.toArray []))) ::
   (@Prod.mk Nat PySem.Obj (nat_lit 157) (PySem.Obj.mk (PySem.Value.type "function") (@none Nat) (PySem.Data.func (FuncData.mk (PySem.Str.ofString "_law_is_joined") (PySem.Str.ofString "_law_is_joined") (by refine' (?f : (b : Arguments) → hd.ar hd.top 7 = b → Arguments) _ ?h; (case f => exact fun b _ => b); (case h => ((conv => lhs; whnf); (try exact rfl)))) (FuncBody.stmts (by refine' (?f : (b : List Stmt) → hd.bo hd.top 7 = b → List Stmt) _ ?h; (case f => exact fun b _ => b); (case h => ((conv => lhs; whnf); (try exact rfl))))) (by refine' (?f : (b : Scope) → hd.sc hd.top 7 = b → Scope) _ ?h; (case f => exact fun b _ => b); (case h => ((conv => lhs; whnf); (try exact rfl)))) (3 : Nat) (@List.nil (Prod.{0, 0} PySem.Str Nat)) PySem.Value.none PySem.Value.none PySem.Value.none (PySem.Value.str (PySem.Str.ofString "law_nu0265_01") (330 : Nat)) (@none Nat) (PySem.Value.ref (156 : Nat)) PySem.Value.none (0 : Nat))) (List.toArray []))) ::
   (@Prod.mk Nat PySem.Obj (nat_lit 158) (PySem.Obj.mk (PySem.Value.type "tuple") (@none Nat) (PySem.Data.seq (List.toArray []) (0 : Nat)) (List.toArray []))) ::
   (@Prod.mk Nat PySem.Obj (nat_lit 161) (PySem.Obj.mk (PySem.Value.type "code") (@none Nat) (PySem.Data.fields (List.toArray [(PySem.Value.str (PySem.Str.ofString "_law_is_settled") (376 : Nat)), (PySem.Value.str (PySem.Str.ofString "_law_is_settled") (377 : Nat)), (PySem.Value.str (PySem.Str.ofString "/claim/cut.py") (378 : Nat)), (PySem.Value.int (106 : Int) (0 : Nat)), (PySem.Value.int (4 : Int) (0 : Nat)), (PySem.Value.int (0 : Int) (0 : Nat)), (PySem.Value.int (0 : Int) (0 : Nat)), (PySem.Value.int (3 : Int) (0 : Nat)), (PySem.Value.ref (158 : Nat)), (PySem.Value.bool Bool.true), (PySem.Value.int (181 : Int) (0 : Nat)), (PySem.Value.ref (159 : Nat)), PySem.Value.none, PySem.Value.none, PySem.Value.none, (PySem.Value.ref (160 : Nat)), (PySem.Value.int (379 : Int) (0 : Nat)), (PySem.Value.int (106 : Int) (0 : Nat)), (PySem.Value.str (PySem.Str.ofString "/claim/cut.py") (380 : Nat))])) (List.toArray []))) ::
   (@Prod.mk Nat PySem.Obj (nat_lit 162) (PySem.Obj.mk (PySem.Value.type "function") (@none Nat) (PySem.Data.func (FuncData.mk (PySem.Str.ofString "_law_is_settled") (PySem.Str.ofString "_law_is_settled") (by refine' (?f : (b : Arguments) → hd.ar hd.top 8 = b → Arguments) _ ?h; (case f => exact fun b _ => b); (case h => ((conv => lhs; whnf); (try exact rfl)))) (FuncBody.stmts (by refine' (?f : (b : List Stmt) → hd.bo hd.top 8 = b → List Stmt) _ ?h; (case f => exact fun b _ => b); (case h => ((conv => lhs; whnf); (try exact rfl))))) (by refine' (?f : (b : Scope) → hd.sc hd.top 8 = b → Scope) _ ?h; (case f => exact fun b _ => b); (case h => ((conv => lhs; whnf); (try exact rfl)))) (3 : Nat) (@List.nil (Prod.{0, 0} PySem.Str Nat)) PySem.Value.none PySem.Value.none PySem.Value.none (PySem.Value.str (PySem.Str.ofString "law_nu0265_01") (330 : Nat)) (@none Nat) (PySem.Value.ref (161 : Nat)) PySem.Value.none (0 : Nat))) (List.toArray []))) ::
   (@Prod.mk Nat PySem.Obj (nat_lit 163) (PySem.Obj.mk (PySem.Value.type "tuple") (@none Nat) (PySem.Data.seq (List.toArray []) (0 : Nat)) (List.toArray []))) ::
   (@Prod.mk Nat PySem.Obj (nat_lit 165) (PySem.Obj.mk (PySem.Value.type "tuple") (@none Nat) (PySem.Data.seq (List.toArray [(PySem.Value.str (PySem.Str.ofString "kind") (385 : Nat)), (PySem.Value.str (PySem.Str.ofString "args") (386 : Nat))]) (0 : Nat)) (List.toArray []))) ::
   (@Prod.mk Nat PySem.Obj (nat_lit 166) (PySem.Obj.mk (PySem.Value.type "tuple") (@none Nat) (PySem.Data.seq (List.toArray []) (0 : Nat)) (List.toArray []))) ::
   (@Prod.mk Nat PySem.Obj (nat_lit 168) (PySem.Obj.mk (PySem.Value.type "code") (@none Nat) (PySem.Data.fields (List.toArray [(PySem.Value.str (PySem.Str.ofString "_law_again") (382 : Nat)), (PySem.Value.str (PySem.Str.ofString "_law_again") (383 : Nat)), (PySem.Value.str (PySem.Str.ofString "/claim/cut.py") (384 : Nat)), (PySem.Value.int (119 : Int) (0 : Nat)), (PySem.Value.int (2 : Int) (0 : Nat)), (PySem.Value.int (0 : Int) (0 : Nat)), (PySem.Value.int (0 : Int) (0 : Nat)), (PySem.Value.int (3 : Int) (0 : Nat)), (PySem.Value.ref (163 : Nat)), (PySem.Value.bool Bool.true), (PySem.Value.int (181 : Int) (0 : Nat)), (PySem.Value.ref (164 : Nat)), PySem.Value.none, (PySem.Value.ref (165 : Nat)), (PySem.Value.ref (166 : Nat)), (PySem.Value.ref (167 : Nat)), (PySem.Value.int (387 : Int) (0 : Nat)), (PySem.Value.int (119 : Int) (0 : Nat)), (PySem.Value.str (PySem.Str.ofString "/claim/cut.py") (388 : Nat))])) (List.toArray []))) ::
   (@Prod.mk Nat PySem.Obj (nat_lit 169) (PySem.Obj.mk (PySem.Value.type "function") (@none Nat) (PySem.Data.func (FuncData.mk (PySem.Str.ofString "_law_again") (PySem.Str.ofString "_law_again") (by refine' (?f : (b : Arguments) → hd.ar hd.top 9 = b → Arguments) _ ?h; (case f => exact fun b _ => b); (case h => ((conv => lhs; whnf); (try exact rfl)))) (FuncBody.stmts (by refine' (?f : (b : List Stmt) → hd.bo hd.top 9 = b → List Stmt) _ ?h; (case f => exact fun b _ => b); (case h => ((conv => lhs; whnf); (try exact rfl))))) (by refine' (?f : (b : Scope) → hd.sc hd.top 9 = b → Scope) _ ?h; (case f => exact fun b _ => b); (case h => ((conv => lhs; whnf); (try exact rfl)))) (3 : Nat) (@List.nil (Prod.{0, 0} PySem.Str Nat)) PySem.Value.none PySem.Value.none PySem.Value.none (PySem.Value.str (PySem.Str.ofString "law_nu0265_01") (330 : Nat)) (@none Nat) (PySem.Value.ref (168 : Nat)) PySem.Value.none (0 : Nat))) (List.toArray []))) ::
   (@Prod.mk Nat PySem.Obj (nat_lit 170) (PySem.Obj.mk (PySem.Value.type "tuple") (@none Nat) (PySem.Data.seq (List.toArray []) (0 : Nat)) (List.toArray []))) ::
   (@Prod.mk Nat PySem.Obj (nat_lit 172) (PySem.Obj.mk (PySem.Value.type "tuple") (@none Nat) (PySem.Data.seq (List.toArray [(PySem.Value.str (PySem.Str.ofString "tables") (393 : Nat)), (PySem.Value.str (PySem.Str.ofString "g") (394 : Nat)), (PySem.Value.str (PySem.Str.ofString "row") (395 : Nat))]) (0 : Nat)) (List.toArray []))) ::
   (@Prod.mk Nat PySem.Obj (nat_lit 173) (PySem.Obj.mk (PySem.Value.type "tuple") (@none Nat) (PySem.Data.seq (List.toArray []) (0 : Nat)) (List.toArray []))) ::
   (@Prod.mk Nat PySem.Obj (nat_lit 175) (PySem.Obj.mk (PySem.Value.type "code") (@none Nat) (PySem.Data.fields (List.toArray [(PySem.Value.str (PySem.Str.ofString "_law_truth") (390 : Nat)), (PySem.Value.str (PySem.Str.ofString "_law_truth") (391 : Nat)), (PySem.Value.str (PySem.Str.ofString "/claim/cut.py") (392 : Nat)), (PySem.Value.int (123 : Int) (0 : Nat)), (PySem.Value.int (3 : Int) (0 : Nat)), (PySem.Value.int (0 : Int) (0 : Nat)), (PySem.Value.int (0 : Int) (0 : Nat)), (PySem.Value.int (3 : Int) (0 : Nat)), (PySem.Value.ref (170 : Nat)), (PySem.Value.bool Bool.true), (PySem.Value.int (181 : Int) (0 : Nat)), (PySem.Value.ref (171 : Nat)), PySem.Value.none, (PySem.Value.ref (172 : Nat)), (PySem.Value.ref (173 : Nat)), (PySem.Value.ref (174 : Nat)), (PySem.Value.int (396 : Int) (0 : Nat)), (PySem.Value.int (123 : Int) (0 : Nat)), (PySem.Value.str (PySem.Str.ofString "/claim/cut.py") (397 : Nat))])) (List.toArray []))) ::
   (@Prod.mk Nat PySem.Obj (nat_lit 176) (PySem.Obj.mk (PySem.Value.type "function") (@none Nat) (PySem.Data.func (FuncData.mk (PySem.Str.ofString "_law_truth") (PySem.Str.ofString "_law_truth") (by refine' (?f : (b : Arguments) → hd.ar hd.top 10 = b → Arguments) _ ?h; (case f => exact fun b _ => b); (case h => ((conv => lhs; whnf); (try exact rfl)))) (FuncBody.stmts (by refine' (?f : (b : List Stmt) → hd.bo hd.top 10 = b → List Stmt) _ ?h; (case f => exact fun b _ => b); (case h => ((conv => lhs; whnf); (try exact rfl))))) (by refine' (?f : (b : Scope) → hd.sc hd.top 10 = b → Scope) _ ?h; (case f => exact fun b _ => b); (case h => ((conv => lhs; whnf); (try exact rfl)))) (3 : Nat) (@List.nil (Prod.{0, 0} PySem.Str Nat)) PySem.Value.none PySem.Value.none PySem.Value.none (PySem.Value.str (PySem.Str.ofString "law_nu0265_01") (330 : Nat)) (@none Nat) (PySem.Value.ref (175 : Nat)) PySem.Value.none (0 : Nat))) (List.toArray []))) ::
   (@Prod.mk Nat PySem.Obj (nat_lit 177) (PySem.Obj.mk (PySem.Value.type "tuple") (@none Nat) (PySem.Data.seq (List.toArray []) (0 : Nat)) (List.toArray []))) ::
   (@Prod.mk Nat PySem.Obj (nat_lit 180) (PySem.Obj.mk (PySem.Value.type "code") (@none Nat) (PySem.Data.fields (List.toArray [(PySem.Value.str (PySem.Str.ofString "_law_is_grown") (399 : Nat)), (PySem.Value.str (PySem.Str.ofString "_law_is_grown") (400 : Nat)), (PySem.Value.str (PySem.Str.ofString "/claim/cut.py") (401 : Nat)), (PySem.Value.int (125 : Int) (0 : Nat)), (PySem.Value.int (3 : Int) (0 : Nat)), (PySem.Value.int (0 : Int) (0 : Nat)), (PySem.Value.int (0 : Int) (0 : Nat)), (PySem.Value.int (3 : Int) (0 : Nat)), (PySem.Value.ref (177 : Nat)), (PySem.Value.bool Bool.true), (PySem.Value.int (181 : Int) (0 : Nat)), (PySem.Value.ref (178 : Nat)), PySem.Value.none, PySem.Value.none, PySem.Value.none, (PySem.Value.ref (179 : Nat)), (PySem.Value.int (402 : Int) (0 : Nat)), (PySem.Value.int (125 : Int) (0 : Nat)), (PySem.Value.str (PySem.Str.ofString "/claim/cut.py") (403 : Nat))])) (List.toArray []))) ::
   (@Prod.mk Nat PySem.Obj (nat_lit 181) (PySem.Obj.mk (PySem.Value.type "function") (@none Nat) (PySem.Data.func (FuncData.mk (PySem.Str.ofString "_law_is_grown") (PySem.Str.ofString "_law_is_grown") (by refine' (?f : (b : Arguments) → hd.ar hd.top 11 = b → Arguments) _ ?h; (case f => exact fun b _ => b); (case h => ((conv => lhs; whnf); (try exact rfl)))) (FuncBody.stmts (by refine' (?f : (b : List Stmt) → hd.bo hd.top 11 = b → List Stmt) _ ?h; (case f => exact fun b _ => b); (case h => ((conv => lhs; whnf); (try exact rfl))))) (by refine' (?f : (b : Scope) → hd.sc hd.top 11 = b → Scope) _ ?h; (case f => exact fun b _ => b); (case h => ((conv => lhs; whnf); (try exact rfl)))) (3 : Nat) (@List.nil (Prod.{0, 0} PySem.Str Nat)) PySem.Value.none PySem.Value.none PySem.Value.none (PySem.Value.str (PySem.Str.ofString "law_nu0265_01") (330 : Nat)) (@none Nat) (PySem.Value.ref (180 : Nat)) PySem.Value.none (0 : Nat))) (List.toArray []))) ::
   (@Prod.mk Nat PySem.Obj (nat_lit 182) (PySem.Obj.mk (PySem.Value.type "tuple") (@none Nat) (PySem.Data.seq (List.toArray []) (0 : Nat)) (List.toArray []))) ::
   (@Prod.mk Nat PySem.Obj (nat_lit 185) (PySem.Obj.mk (PySem.Value.type "code") (@none Nat) (PySem.Data.fields (List.toArray [(PySem.Value.str (PySem.Str.ofString "law") (405 : Nat)), (PySem.Value.str (PySem.Str.ofString "law") (406 : Nat)), (PySem.Value.str (PySem.Str.ofString "/claim/cut.py") (407 : Nat)), (PySem.Value.int (137 : Int) (0 : Nat)), (PySem.Value.int (1 : Int) (0 : Nat)), (PySem.Value.int (0 : Int) (0 : Nat)), (PySem.Value.int (0 : Int) (0 : Nat)), (PySem.Value.int (3 : Int) (0 : Nat)), (PySem.Value.ref (182 : Nat)), (PySem.Value.bool Bool.true), (PySem.Value.int (181 : Int) (0 : Nat)), (PySem.Value.ref (183 : Nat)), PySem.Value.none, PySem.Value.none, PySem.Value.none, (PySem.Value.ref (184 : Nat)), (PySem.Value.int (408 : Int) (0 : Nat)), (PySem.Value.int (137 : Int) (0 : Nat)), (PySem.Value.str (PySem.Str.ofString "/claim/cut.py") (409 : Nat))])) (List.toArray []))) ::
   (@Prod.mk Nat PySem.Obj (nat_lit 186) (PySem.Obj.mk (PySem.Value.type "function") (@none Nat) (PySem.Data.func (FuncData.mk (PySem.Str.ofString "law") (PySem.Str.ofString "law") (by refine' (?f : (b : Arguments) → hd.ar hd.top 12 = b → Arguments) _ ?h; (case f => exact fun b _ => b); (case h => ((conv => lhs; whnf); (try exact rfl)))) (FuncBody.stmts (by refine' (?f : (b : List Stmt) → hd.bo hd.top 12 = b → List Stmt) _ ?h; (case f => exact fun b _ => b); (case h => ((conv => lhs; whnf); (try exact rfl))))) (by refine' (?f : (b : Scope) → hd.sc hd.top 12 = b → Scope) _ ?h; (case f => exact fun b _ => b); (case h => ((conv => lhs; whnf); (try exact rfl)))) (3 : Nat) (@List.nil (Prod.{0, 0} PySem.Str Nat)) PySem.Value.none PySem.Value.none PySem.Value.none (PySem.Value.str (PySem.Str.ofString "law_nu0265_01") (330 : Nat)) (@none Nat) (PySem.Value.ref (185 : Nat)) PySem.Value.none (0 : Nat))) (List.toArray []))) :: [] : List (Nat × Obj))
-- the view: the top without its two lines on __name__
noncomputable def hd.view_39 : Program :=
  { PySem.Challenge.rw_nu0265_01.row.toRowW.prog with main := { PySem.Challenge.rw_nu0265_01.row.toRowW.prog.main with body := List.cons (by refine' (?f : (b : Stmt) → hd.top.getD 1 default = b → Stmt) _ ?h; (case f => exact fun b _ => b); (case h => ((conv => lhs; whnf); (try exact rfl)))) (by refine' (?f : (b : List Stmt) → hd.top.drop 3 = b → List Stmt) _ ?h; (case f => exact fun b _ => b); (case h => ((conv => lhs; whnf); (try exact rfl)))) } }
theorem hd.keys (P : Params) : ((nat_lit 2) :: (nat_lit 3) :: (nat_lit 22) :: (nat_lit 24) :: (nat_lit 25) :: (nat_lit 27) :: (nat_lit 28) :: (nat_lit 29) :: (nat_lit 31) :: (nat_lit 32) :: (nat_lit 34) :: (nat_lit 35) :: (nat_lit 36) :: (nat_lit 38) :: (nat_lit 39) :: (nat_lit 41) :: (nat_lit 42) :: (nat_lit 43) :: (nat_lit 45) :: (nat_lit 46) :: (nat_lit 48) :: (nat_lit 49) :: (nat_lit 50) :: (nat_lit 52) :: (nat_lit 53) :: (nat_lit 55) :: (nat_lit 56) :: (nat_lit 57) :: (nat_lit 59) :: (nat_lit 60) :: (nat_lit 62) :: (nat_lit 63) :: (nat_lit 64) :: (nat_lit 66) :: (nat_lit 67) :: (nat_lit 69) :: (nat_lit 70) :: (nat_lit 71) :: (nat_lit 74) :: (nat_lit 75) :: (nat_lit 76) :: (nat_lit 78) :: (nat_lit 79) :: (nat_lit 81) :: (nat_lit 82) :: (nat_lit 83) :: (nat_lit 85) :: (nat_lit 86) :: (nat_lit 88) :: (nat_lit 89) :: (nat_lit 90) :: (nat_lit 92) :: (nat_lit 93) :: (nat_lit 95) :: (nat_lit 96) :: (nat_lit 97) :: (nat_lit 99) :: (nat_lit 100) :: (nat_lit 102) :: (nat_lit 103) :: (nat_lit 104) :: (nat_lit 106) :: (nat_lit 107) :: (nat_lit 109) :: (nat_lit 110) :: (nat_lit 111) :: (nat_lit 113) :: (nat_lit 114) :: (nat_lit 116) :: (nat_lit 117) :: (nat_lit 118) :: (nat_lit 119) :: (nat_lit 120) :: (nat_lit 121) :: (nat_lit 122) :: (nat_lit 125) :: (nat_lit 127) :: (nat_lit 128) :: (nat_lit 130) :: (nat_lit 131) :: (nat_lit 132) :: (nat_lit 134) :: (nat_lit 135) :: (nat_lit 137) :: (nat_lit 138) :: (nat_lit 139) :: (nat_lit 141) :: (nat_lit 142) :: (nat_lit 144) :: (nat_lit 145) :: (nat_lit 146) :: (nat_lit 148) :: (nat_lit 149) :: (nat_lit 151) :: (nat_lit 152) :: (nat_lit 153) :: (nat_lit 156) :: (nat_lit 157) :: (nat_lit 158) :: (nat_lit 161) :: (nat_lit 162) :: (nat_lit 163) :: (nat_lit 165) :: (nat_lit 166) :: (nat_lit 168) :: (nat_lit 169) :: (nat_lit 170) :: (nat_lit 172) :: (nat_lit 173) :: (nat_lit 175) :: (nat_lit 176) :: (nat_lit 177) :: (nat_lit 180) :: (nat_lit 181) :: (nat_lit 182) :: (nat_lit 185) :: (nat_lit 186) :: [] : List Nat) = (hd.heap_39 P).map (·.1) := by kernel_rfl
-- the top's run from the booted heap on, in one check, by the library's quick words
noncomputable def hd.behind (p : Program) (s₀ : Shared) (h : (s₀.heap.isNs mainGlobals && s₀.gens.size == 0) = true) : {b : Shared → Option Shared // ∀ (tb : String → Option Builtin) (w : World) (N : Nat),
    topFrom tb p w N s₀ = (topRun tb p w s₀.heap.objs.size (s₀.heap.nsMap mainGlobals "__annotations__") N s₀ (topStub p)).bind b} := ⟨_, fun tb w N => by unfold topFrom; rw [h]; (try exact rfl)⟩
theorem hd.boot (w : World) : (fencedOpening treeTable PySem.Challenge.rw_nu0265_01.row.toRowW.prog w 2032).map (fun s => (s.heap, s.gens, s.drawn, s.toks)) = some (boot_heap w.params, Array.mk [], boot_drawn, boot_toks) :=
  boot_open (by kernel_rfl) (by decide) (fun _ => by kernel_rfl) w
noncomputable def hd.s₀ (w : World) (os : OsState) : Shared := ⟨boot_heap w.params, Array.mk [], boot_drawn, boot_toks, os⟩
theorem hd.isNs (w : World) (os : OsState) : ((hd.s₀ w os).heap.isNs mainGlobals && (hd.s₀ w os).gens.size == 0) = true := by kernel_rfl
theorem hd.run (w : World) (os : OsState) : ((Fast.tw14082659384304107361 Fast.tw14364793385576792824 PySem.Challenge.rw_nu0265_01.row.toRowW.prog w (hd.s₀ w os).heap.objs.size ((hd.s₀ w os).heap.nsMap mainGlobals "__annotations__") 2032 (hd.s₀ w os) (topStub PySem.Challenge.rw_nu0265_01.row.toRowW.prog)).bind
      (hd.behind PySem.Challenge.rw_nu0265_01.row.toRowW.prog (hd.s₀ w os) (hd.isNs w os)).1).map (fun s => (Fast.tw4187177175401517315 hd.view_39 [] (importedModules PySem.Challenge.rw_nu0265_01.row.toRowW.prog.main.body) (fun s => xlAt hd.view_39 [] s && recOk PySem.Challenge.rw_nu0265_01.row.records s) true s, (kHook hd.heap_39 _ hd.keys).obs s)) = some (openGood hd.view_39 [], (kHook hd.heap_39 _ hd.keys).val w) := by kernel_rfl
theorem hd.left : LeftO PySem.Challenge.rw_nu0265_01.row.toRowW.prog hd.view_39 [] (fun s => xlAt hd.view_39 [] s && recOk PySem.Challenge.rw_nu0265_01.row.records s) (kHook hd.heap_39 _ hd.keys).obs (kHook hd.heap_39 _ hd.keys).val 2032 := fun w => by
  obtain ⟨⟨h, gs, d, k, os⟩, e, e'⟩ := Option.map_eq_some_iff.mp (hd.boot w)
  obtain ⟨rfl, rfl, rfl, rfl⟩ : h = boot_heap w.params ∧ gs = Array.mk [] ∧ d = boot_drawn ∧ k = boot_toks := by simpa using e'
  have r := hd.run w os
  rw [← Fast.te4187177175401517315, ← Fast.te14082659384304107361, ← Fast.te14364793385576792824, ← (hd.behind _ _ (hd.isNs w os)).2] at r
  unfold openEnds
  rw [e, Option.bind_some]
  exact r
theorem hd : (WalkO hd.view_39 [] (XL hd.view_39 []) (kHook hd.heap_39 _ hd.keys).says PySem.Challenge.rw_nu0265_01.row.toRowW
    ⟨Str.ofString "law", (by refine' (?f : (b : Arguments) → hd.ar hd.top 12 = b → Arguments) _ ?h; (case f => exact fun b _ => b); (case h => ((conv => lhs; whnf); (try exact rfl)))), (by refine' (?f : (b : List Stmt) → hd.bo hd.top 12 = b → List Stmt) _ ?h; (case f => exact fun b _ => b); (case h => ((conv => lhs; whnf); (try exact rfl)))), (by refine' (?f : (b : Scope) → hd.sc hd.top 12 = b → Scope) _ ?h; (case f => exact fun b _ => b); (case h => ((conv => lhs; whnf); (try exact rfl)))), (by refine' (?f : (b : Pos) → hd.po hd.top 12 = b → Pos) _ ?h; (case f => exact fun b _ => b); (case h => ((conv => lhs; whnf); (try exact rfl))))⟩ [] (fun f vs => PySem.call f vs)) → PySem.Challenge.rw_nu0265_01.Holds := by
  intro hc
  refine holds_law (by kernel_rfl) fun said => ?_
  refine holds_open (q := hd.view_39) (loose := []) (Xt := fun s => xlAt hd.view_39 [] s && recOk PySem.Challenge.rw_nu0265_01.row.records s) (XP := XL hd.view_39 []) (Yf := (kHook hd.heap_39 _ hd.keys).obs) (Ya := (kHook hd.heap_39 _ hd.keys).val)
    (YP := (kHook hd.heap_39 _ hd.keys).says) (N := 2032) hd.left (Hook.of _) (Hook.keeps _) (fun s e => xl_of s (Bool.and_eq_true_iff.mp e).1) XL.keeps rfl rfl rfl (fun s e => recFacts_of (Bool.and_eq_true_iff.mp e).2) rfl said (by decide +kernel) ⟨rfl, rfl, rfl, rfl, rfl, by decide +kernel⟩ ?hw hc
  w_witness2
end Mine
end
-- text Base
section
open PySem PySem.W PySem.Calls PyProof.Rows
set_option Elab.async false
set_option maxRecDepth 100000
namespace Mine
noncomputable abbrev PG : Program := PySem.Challenge.rw_nu0265_01.row.prog
noncomputable abbrev ar (dp un : Nat) (gd : Option (List Code)) (fr : List Env) : Around := { handled := none, depth := dp, frames := some fr, guards := gd, units := un }
noncomputable abbrev TT (mean : ExcName → Option Value) (mg mb : Str → Option Value) (g : Heap) : Prop := Top hd.view_39 (looseW hd.view_39 []) mean mg mb g

/-- the caller's side of a call: what is kept (g), and the whole (h) -/
structure Sit (w : World) (mean : ExcName → Option Value) (mg mb : Str → Option Value) (base : Heap) (dp un : Nat) (gd : Option (List Code)) (fr : List Env) (g h : Heap) : Prop where
  B : Below (ar dp un gd fr) base fr g
  X : (hd.heap_39 w.params).In g
  T : TT mean mg mb g
  st : g.StaysIn h
  sz : g.objs.size ≤ h.objs.size

noncomputable def Ctr (w : World) (mean : ExcName → Option Value) (mg mb : Str → Option Value) (f : Addr) (d u : Nat) (vs : List Value) (Pre : Heap → Heap → Prop) (Post : Heap → Value → Heap → Heap → Prop) : Prop :=
  ∀ (dp un : Nat) (gd : Option (List Code)) (fr : List Env) (base g : Heap) (s : Shared) (Q E : Value → Shared → Prop),
    Sit w mean mg mb base dp un gd fr g s.heap → dp + d < recursionLimit → un + u < cLine → Pre g s.heap →
    (∀ v h' tk', g.StaysIn h' → Post g v s.heap h' → Q v { s with heap := h', toks := tk' }) →
    wpAny (model PG w) (ar dp un gd fr) (call (.ref f) vs) Q E s

section
variable {w : World} {mean : ExcName → Option Value} {mg mb : Str → Option Value} {base g : Heap} {dp un : Nat} {gd : Option (List Code)} {fr : List Env} {s : Shared}
  {R : Result → Shared → Prop} {name qual : Str} {params : Arguments} {body : List Stmt} {scope : Scope} {dV kV doc pm cdv ct oc : Value} {an od : Option Addr} {osl : Array (Option Value)} {f : Addr} {args : Args} {binds : List (Str × Value)}

/-- into a def's body -/
theorem enter (C : Sit w mean mg mb base dp un gd fr g s.heap)
    (ho : (hd.heap_39 w.params).lookup f = some ⟨oc, od, .func (fnOf name qual params body scope dV kV doc pm an cdv ct), osl⟩) (hcd : codeIn (hd.heap_39 w.params) cdv qual = true) (hroom : dp < recursionLimit)
    (hbind : BindsTo s (fnOf name qual params body scope dV kV doc pm an cdv ct) args binds) (hloc : ∀ y ∈ binds, scope.names.lookup y.1 = some .local)
    (h : ∀ h₁, Fr g s.heap.objs.size h₁ (fun y => binds.reverse.lookup y) → s.heap.StaysIn h₁ → 
      wpAny (model PG w) ((ar dp un gd fr).deeper (envOf qual scope s.heap.objs.size f cdv)) (execs body (envOf qual scope s.heap.objs.size f cdv))
        (fun fl s' => R (.ok (.ret (match fl with | .ret v => v | _ => .none))) s')
        (fun _ _ => False)
        { s with heap := h₁, toks := s.toks + binds.length })
    (hco : scope.isCoroutine = false) (hgen : scope.isGenerator = false) (hk : scope.kind = .function)
    (hcell : ∀ x ∈ scope.names, x.2 ≠ .cell) : codeAny (model PG w) (ar dp un gd fr) (.call (.ref f) args) R s := by
  refine codeAny_call_def (fd := fnOf name qual params body scope dV kV doc pm an cdv ct) (body := body) (binds := binds) hroom (C.st _ _ (C.X _ _ ho)) rfl (C.T.nolimit.keeps C.st) (codeRec_of (C.X.keeps C.st) hcd) rfl hbind hcell hloc (fun h₁ hns hk₁ => ?_) hco hgen hk
  exact wpAny_mono (h h₁ ⟨hns, fun b o e => hk₁ b o (C.st b o e), C.sz⟩ hk₁) (fun _ _ x => x) (fun _ _ x => x.elim)

theorem use_ctr {Pre : Heap → Heap → Prop} {Post : Heap → Value → Heap → Heap → Prop} {d u : Nat} {vs : List Value} (c : Ctr w mean mg mb f d u vs Pre Post) {A₀ : Around} {env : Env} {L : Addr} {m : Str → Option Value} {Q E : Value → Shared → Prop}
    (Wn : List (Addr × Obj)) (B : Below A₀ base fr g) (F : Fr g L s.heap m) (X : (hd.heap_39 w.params).In g) (T : TT mean mg mb g) (N : News g L s.heap Wn) (hf : env.frame = some L) (hke : env.scope.kind = .function)
    (hd' : dp + d < recursionLimit) (hu : un + u < cLine) (hpre : Pre (hideAll s.heap (Wn.map (·.1))) s.heap)
    (k : ∀ v h' tk', Fr g L h' m → (hideAll s.heap (Wn.map (·.1))).StaysIn h' → Post (hideAll s.heap (Wn.map (·.1))) v s.heap h' → Q v { s with heap := h', toks := tk' }) :
    wpAny (model PG w) (ar dp un gd (env :: fr)) (call (.ref f) vs) Q E s := by
  obtain ⟨FG, BG, st, _⟩ := groundX (A := ar dp un gd (env :: fr)) (R := fun _ _ => True) B F N rfl hf hke
  refine c dp un gd (env :: fr) base _ s Q E ⟨BG, X.keeps st, T.keeps st, fun b o e => of_hideAll _ e, Nat.le_of_eq (hideAll_size _ _)⟩ hd' hu hpre fun v h' tk' k' p => ?_
  exact k v h' tk' (FG.keeps k') k' p

theorem hid_mem {L : Addr} {news : List (Addr × Obj)} {Wn : List (Addr × Obj)} {h h' : Heap} (N : News g L h news) (k : (hideAll h (Wn.map (·.1))).StaysIn h') {p : Addr × Obj} (hp : p ∈ news) (hn : ∀ q ∈ Wn, q.1 ≠ p.1) : h'.get? p.1 = some p.2 ∧ p.1 ≠ L ∧ g.get? p.1 = none :=
  ⟨k _ _ (hideAll_get _ (N p hp).1 fun q => let ⟨x, hx, e⟩ := List.mem_map.mp q; hn x hx e), (N p hp).2.1, (N p hp).2.2⟩

/-- a call that writes to one object -/
theorem use1 {P : Obj → Prop} {PV : Heap → Value → Heap → Prop} {P₀ : Heap → Prop} {d u : Nat} {vs : List Value} {a : Addr}
    {A₀ : Around} {env : Env} {L : Addr} {m : Str → Option Value} {Q E : Value → Shared → Prop} {news : List (Addr × Obj)} {gf : Obj → List (Addr × Obj)} {o : Obj} {P₁ : Obj → Prop}
    (c : Ctr w mean mg mb f d u vs (fun g h => (∃ o, h.get? a = some o ∧ P₁ o) ∧ g.get? a = none ∧ P₀ g) (fun g v _h h' => PV g v h' ∧ ∃ o', h'.get? a = some o' ∧ P o'))
    (B : Below A₀ base fr g) (F : Fr g L s.heap m) (X : (hd.heap_39 w.params).In g) (T : TT mean mg mb g) (N : News g L s.heap news) (hf : env.frame = some L) (hke : env.scope.kind = .function)
    (U : UpdF a o news gf)
    (hd' : dp + d < recursionLimit) (hu : un + u < cLine) (hp : P₁ o) (hpre : ∀ g₂ : Heap, g.StaysIn g₂ → (∀ p ∈ news, p.1 ≠ a → g₂.get? p.1 = some p.2) → P₀ g₂)
    (k : ∀ v h' o' tk', Fr g L h' m → News g L h' (gf o') → (hideAll s.heap [a]).StaysIn h' → PV (hideAll s.heap [a]) v h' → P o' → Q v { s with heap := h', toks := tk' }) :
    wpAny (model PG w) (ar dp un gd (env :: fr)) (call (.ref f) vs) Q E s := by
  obtain ⟨pre, post, rfl, hg, h1, h2⟩ := U.split
  have hm := N (a, o) (List.mem_append_right _ (.head _))
  refine use_ctr c [(a, o)] B F X T (fun p hp => by rw [List.mem_singleton.mp hp]; exact hm) hf hke hd' hu ⟨⟨o, hm.1, hp⟩, hideAll_none _ (List.mem_map_of_mem (List.mem_singleton.mpr rfl)), hpre _ (fun b x e => hideAll_get _ (F.keep b x e) fun q => ?_) (fun p hp hne => hideAll_get _ (N p hp).1 fun q => hne (List.mem_singleton.mp q))⟩ ?_
  · rw [List.mem_singleton.mp q, hm.2.2] at e; cases e
  rintro v h' tk' F' k' ⟨hv, o', ho', hP⟩
  refine k v h' o' tk' F' (fun p hp => ?_) k' hv hP
  rw [hg] at hp
  rcases List.mem_append.mp hp with hp | hp
  · exact hid_mem N k' (List.mem_append_left _ hp) fun q hq => by rw [List.mem_singleton.mp hq]; exact (h1 p hp).symm
  · rcases List.mem_cons.mp hp with rfl | hp
    · exact ⟨ho', hm.2.1, hm.2.2⟩
    · exact hid_mem N k' (List.mem_append_right _ (.tail _ hp)) fun q hq => by rw [List.mem_singleton.mp hq]; exact (h2 p hp).symm

theorem see {L : Addr} {h : Heap} {m : Str → Option Value} (F : Fr g L h m) (x : Str) {v : Value} (hx : m x = some v) : Fr g L h (fun y => if y = x then some v else m y) := by
  have e : (fun y => if y = x then some v else m y) = m := by
    funext y
    split
    · rename_i q; rw [q, hx]
    · rfl
  rw [e]; exact F

@[irreducible] noncomputable def Stop (n : Nat) (P : Prop) : Prop := P
theorem Stop.to (n : Nat) {P : Prop} (h : Stop n P) : P := by unfold Stop at h; exact h
theorem Stop.mk {P : Prop} (h : Stop 0 P) : P := Stop.to 0 h
theorem Stop.out {n : Nat} {P : Prop} (h : P) : Stop n P := by unfold Stop; exact h

/-- what the callee knows around itself -/
theorem Sit.below (C : Sit w mean mg mb base dp un gd fr g s.heap) : Below (ar dp un gd fr) base fr g := C.B
end
end Mine
end
-- text Loops
section
open PySem PySem.W PySem.Calls PyProof.Rows
set_option Elab.async false
set_option maxRecDepth 100000
namespace Mine
section
variable {w : World} {A : Around} {E : Value → Shared → Prop} {s : Shared} {env : Env} {h₀ : Heap} {x : Str} {body : List Stmt} {Q : Flow → Shared → Prop}
theorem for_core {I : Addr} {fp : List Addr} {n : Nat} {P : Nat → Value → Prop} {St : Nat → Heap → Prop} {m₀ : Str → Option Value} {news : List (Addr × Obj)} (J : Nat → (Str → Option Value) → List (Addr × Obj) → Prop)
    (W : Walks PG w A I fp [I] n P St) (hfp : ∀ b ∈ fp, b = I ∨ ∃ o, h₀.get? b = some o) (hob : ∀ i h, St i h → ∃ o, h.get? I = some o) (hL : env.locals ∉ fp) (hI0 : h₀.get? I = none) (hnw : ∀ p ∈ news, p.1 ≠ I) (hst : St 0 s.heap)
    (F : Fr h₀ env.locals s.heap m₀) (N : News h₀ env.locals s.heap news) (hj : J 0 m₀ news)
    (turn : ∀ i v m₁ nx h tk own, i < n → P i v → OwnOff own (nx.map (·.1)) → J i m₁ nx → Fr h₀ env.locals h (fun y => if y = x then some v else m₁ y) → News h₀ env.locals h (nx ++ own) →
      wpAny (model PG w) A (execs body env) (InvPostG h₀ env.locals (J (i + 1)) own { s with heap := h, toks := tk } Q) E { s with heap := h, toks := tk })
    (done : ∀ m₁ nx h tk, J n m₁ nx → Fr h₀ env.locals h m₁ → News h₀ env.locals h nx → Q .next { s with heap := h, toks := tk }) :
    LoopAtV PG w A h₀ env x body Q E (.ref I) s := by
  refine ⟨I, fp, [I], n, P, St, m₀, news, J, rfl, W, hL, (fun b hb => by rw [List.mem_singleton.mp hb]; exact hI0), (fun p hp hb => hnw p hp (List.mem_singleton.mp hb)), hst, F, N, hj, ?_, ?_⟩
  · rintro i v m₁ nx s₁ own ⟨hh', tk', rfl⟩ hin hP hJ hoff hown hget hall hst' F₁ N₁
    have hI : ∀ p ∈ own, p.1 = I := fun p hp => by
      rcases hfp _ (hown p hp) with e | ⟨o, e⟩
      · exact e
      · have := (N₁ p (List.mem_append_left _ hp)).2.2
        rw [e] at this; cases this
    have hsep : OwnOff own (nx.map (·.1)) := by
      intro p hp b hb e
      obtain ⟨q, hq, rfl⟩ := List.mem_map.mp hb
      exact hoff q hq (List.mem_singleton.mpr (by rw [← e]; exact hI p hp))
    have N₂ : News h₀ env.locals hh' (nx ++ own) := fun p hp => N₁ p ((List.mem_append.mp hp).elim (fun h => List.mem_append.mpr (.inr h)) fun h => List.mem_append.mpr (.inl h))
    refine wpAny_mono (turn i v m₁ nx hh' tk' own hin hP hsep hJ F₁ N₂) (fun f s₂ p => ?_) fun _ _ e => e
    have fin : InvEndG h₀ env.locals (J (i + 1)) own { s with heap := hh', toks := tk' } s₂ → LoopStepU h₀ env.locals [I] own (J (i + 1)) { s with heap := hh', toks := tk' } .next s₂ := by
      rintro ⟨h', tk, m', news', nx', e, F', N', hn, ho, ha, hm⟩
      refine ⟨rfl, h', tk, m', nx', e, F', fun p hp => N' p ((List.mem_append.mp hp).elim (ho p) (hn p)), fun p hp hq => ?_, hm⟩
      obtain ⟨o, hbo⟩ := hob _ _ hst'
      have hmem := hall I (W.sub _ (List.mem_singleton.mpr rfl)) hI0 o hbo
      exact ha _ hmem p.1 (List.mem_map.mpr ⟨p, hp, rfl⟩) (List.mem_singleton.mp hq).symm
    cases f with
    | ret v => exact .ret p
    | brk => exact .brk p
    | next => exact .next (fin p)
    | cont => exact .cont (fin p)
  · rintro h' tk m' news' F' N' _ hJ
    exact done m' news' h' tk hJ F' N'

/-- for x in range(a₀, b₀): n turns -/
theorem for_range {r : Addr} {a₀ b₀ : Int} {t₀ u₀ v₀ : Tok} {n : Nat} {m₀ : Str → Option Value} {news : List (Addr × Obj)} (J : Nat → (Str → Option Value) → List (Addr × Obj) → Prop)
    (hh : A.handled = none) (hr : IsRange s.heap r a₀ b₀ 1 t₀ u₀ v₀) (hsmall : Builtin.Range.small a₀ b₀ 1 = true) (hsz : Builtin.Range.rangeSize a₀ b₀ 1 = (n : Int))
    (F : Fr h₀ env.locals s.heap m₀) (N : News h₀ env.locals s.heap news) (hj : J 0 m₀ news)
    (turn : ∀ i t m₁ nx h tk own, i < n → OwnOff own (nx.map (·.1)) → J i m₁ nx → Fr h₀ env.locals h (fun y => if y = x then some (.int (a₀ + (i : Int)) t) else m₁ y) → News h₀ env.locals h (nx ++ own) →
      wpAny (model PG w) A (execs body env) (InvPostG h₀ env.locals (J (i + 1)) own { s with heap := h, toks := tk } Q) E { s with heap := h, toks := tk })
    (done : ∀ m₁ nx h tk, J n m₁ nx → Fr h₀ env.locals h m₁ → News h₀ env.locals h nx → Q .next { s with heap := h, toks := tk }) :
    wpAny (model PG w) A (pyIter (.ref r)) (fun it s₂ => LoopAtV PG w A h₀ env x body Q E it s₂) E s := by
  refine wpAny_pyIter_range hr hsmall ?_
  have W : Walks PG w A s.heap.objs.size [s.heap.objs.size] [s.heap.objs.size] n (fun i v => ∃ t, v = .int (a₀ + i * 1) t)
      (fun i h => IsRangeIter h s.heap.objs.size (a₀ + (i : Nat) * 1) ((n : Int) - (i : Nat)) 1) := Walks.range hh _ a₀ 1 n
  refine for_core J W (fun b hb => .inl (List.mem_singleton.mp hb)) (fun i h hi => ⟨_, hi⟩) ?_ (next_is_new F) (fun p hp e => absurd (Heap.lt_size (N p hp).1) (e ▸ Nat.lt_irrefl _)) (by show IsRangeIter _ _ _ _ _; rw [hsz]; simpa using Heap.get?_push_size _ rfl) (F.push _) (fun p hp => ⟨Heap.get?_push_of_some _ (N p hp).1, (N p hp).2⟩) hj ?_ (fun m₁ nx h tk => done m₁ nx h tk)
  · intro hm
    exact absurd F.ns.lt ((List.mem_singleton.mp hm) ▸ Nat.lt_irrefl _)
  · rintro i v m₁ nx h tk own hi ⟨t, rfl⟩ hoff hJ F₁ N₁
    have e1 : a₀ + (i : Int) * 1 = a₀ + (i : Int) := by omega
    rw [e1] at F₁
    exact turn i t m₁ nx h tk own hi hoff hJ F₁ N₁

/-- a list or a tuple of the kept part -/
noncomputable def SeqIn (g : Heap) (a : Addr) (vs : List Value) : Prop := g.IsList a vs.toArray ∨ IsTup g a vs.toArray
/-- for x in a list or a tuple that is kept -/
theorem for_seq {l : Addr} {vs : List Value} {m₀ : Str → Option Value} {news : List (Addr × Obj)} (J : Nat → (Str → Option Value) → List (Addr × Obj) → Prop)
    (hh : A.handled = none) (hl : SeqIn h₀ l vs)
    (F : Fr h₀ env.locals s.heap m₀) (N : News h₀ env.locals s.heap news) (hj : J 0 m₀ news)
    (turn : ∀ i v m₁ nx h tk own, i < vs.length → vs[i]? = some v → OwnOff own (nx.map (·.1)) → J i m₁ nx → Fr h₀ env.locals h (fun y => if y = x then some v else m₁ y) → News h₀ env.locals h (nx ++ own) →
      wpAny (model PG w) A (execs body env) (InvPostG h₀ env.locals (J (i + 1)) own { s with heap := h, toks := tk } Q) E { s with heap := h, toks := tk })
    (done : ∀ m₁ nx h tk, J vs.length m₁ nx → Fr h₀ env.locals h m₁ → News h₀ env.locals h nx → Q .next { s with heap := h, toks := tk }) :
    wpAny (model PG w) A (pyIter (.ref l)) (fun it s₂ => LoopAtV PG w A h₀ env x body Q E it s₂) E s := by
  have hlo : ∃ o, h₀.get? l = some o := by rcases hl with ⟨o, ho, _⟩ | ⟨o, ho, _⟩ <;> exact ⟨o, ho⟩
  obtain ⟨ol, hol⟩ := hlo
  have hlt : l < h₀.objs.size := Heap.lt_size hol
  have hne : l ≠ s.heap.objs.size := Nat.ne_of_lt (Nat.lt_trans (Nat.lt_of_lt_of_le hlt F.above) F.ns.lt)
  have hlen : vs.toArray.size = vs.length := by simp
  have h1 : ∀ b ∈ [s.heap.objs.size, l], b = s.heap.objs.size ∨ ∃ o, h₀.get? b = some o := fun b hb => by
    rcases List.mem_cons.mp hb with e | hb
    · exact .inl e
    · rw [List.mem_singleton.mp hb]; exact .inr ⟨ol, hol⟩
  have h2 : env.locals ∉ [s.heap.objs.size, l] := fun hm => by
    rcases List.mem_cons.mp hm with e | hm
    · exact absurd F.ns.lt (e ▸ Nat.lt_irrefl _)
    · exact absurd (Nat.lt_of_lt_of_le hlt F.above) ((List.mem_singleton.mp hm) ▸ Nat.lt_irrefl _)
  have h3 : ∀ p ∈ news, p.1 ≠ s.heap.objs.size := fun p hp e => absurd (Heap.lt_size (N p hp).1) (e ▸ Nat.lt_irrefl _)
  rcases hl with hl | hl
  · have hls : s.heap.IsList l vs.toArray := hl.at fun o e => F.keep l o e
    refine wpAny_pyIter_list hls ?_
    have W := Walks.list (prog := PG) (w := w) hh s.heap.objs.size l hne vs.toArray
    rw [hlen] at W
    exact for_core J W h1 (fun i h hi => let ⟨⟨o, ho, _⟩, _⟩ := hi; ⟨o, ho⟩) h2 (next_is_new F) h3 ⟨⟨_, Heap.get?_push_size _ rfl, rfl, rfl⟩, hls.at fun o e => Heap.get?_push_of_some _ e⟩ (F.push _) (fun p hp => ⟨Heap.get?_push_of_some _ (N p hp).1, (N p hp).2⟩) hj
      (fun i v m₁ nx h tk own hi hP => turn i v m₁ nx h tk own hi (by simpa using hP)) (fun m₁ nx h tk => done m₁ nx h tk)
  · have hls : s.heap.IsTuple l vs.toArray := let ⟨o, ho, r⟩ := hl; ⟨o, F.keep l o ho, r⟩
    refine wpAny_pyIter_tuple hls ?_
    have W := Walks.tuple (prog := PG) (w := w) hh s.heap.objs.size l hne vs.toArray
    rw [hlen] at W
    exact for_core J W h1 (fun i h hi => let ⟨⟨o, ho, _⟩, _⟩ := hi; ⟨o, ho⟩) h2 (next_is_new F) h3 ⟨⟨_, Heap.get?_push_size _ rfl, rfl, rfl⟩, hls.at fun o e => Heap.get?_push_of_some _ e⟩ (F.push _) (fun p hp => ⟨Heap.get?_push_of_some _ (N p hp).1, (N p hp).2⟩) hj
      (fun i v m₁ nx h tk own hi hP => turn i v m₁ nx h tk own hi (by simpa using hP)) (fun m₁ nx h tk => done m₁ nx h tk)
theorem inv_end {L : Addr} {J : (Str → Option Value) → List (Addr × Obj) → Prop} {m' : Str → Option Value} {own nx : List (Addr × Obj)} {s₁ : Shared} {h' : Heap} {tk : Nat} (F : Fr h₀ L h' m') (N : News h₀ L h' (nx ++ own))
    (ha : OwnOff own (nx.map (·.1))) (hj : J m' nx) : InvEndG h₀ L J own s₁ { s₁ with heap := h', toks := tk } :=
  InvEndG.intro F N hj ha (fun p hp => List.mem_append_left _ hp) fun p hp => List.mem_append_right _ hp
end
end Mine
end
-- text Spec
section
open PySem PySem.W PySem.Calls PyProof.Rows
set_option Elab.async false
set_option maxRecDepth 100000
namespace Mine
/-- one draw: the script's part, the count so far, the blend, the bound -/
noncomputable def drawV (ns : List Int) (b k many : Int) : Int :=
  if k < (ns.length : Int) then (if ns.getD k.toNat 0 < 0 then -ns.getD k.toNat 0 else ns.getD k.toNat 0).fmod many
  else ((7 * b + 37 * k * k + 11 * k + 3).fmod 101).fmod many

theorem drawV_lt {ns : List Int} {b k many : Int} (h : 0 < many) : 0 ≤ drawV ns b k many ∧ drawV ns b k many < many := by
  unfold drawV
  split
  · exact ⟨Int.fmod_nonneg_of_pos _ h, Int.fmod_lt_of_pos _ h⟩
  · exact ⟨Int.fmod_nonneg_of_pos _ h, Int.fmod_lt_of_pos _ h⟩
/-- one gate drawn -/
noncomputable def gateV (ns : List Int) (b : Int) (sns : List Int) (k : Int) : Int :=
  if drawV ns b (k + 1) 2 = 0 then sns.getD (drawV ns b k sns.length).toNat 0 else 0 - sns.getD (drawV ns b k sns.length).toNat 0
noncomputable def gatesV (ns : List Int) (b : Int) (sns : List Int) (k : Int) : Nat → List Int
  | 0 => []
  | n + 1 => gatesV ns b sns k n ++ [gateV ns b sns (k + 2 * n)]
theorem gatesV_length (ns : List Int) (b : Int) (sns : List Int) (k : Int) : ∀ n, (gatesV ns b sns k n).length = n
  | 0 => rfl
  | n + 1 => by rw [gatesV, List.length_append, gatesV_length ns b sns k n]; rfl
/-- the feed's dict -/
noncomputable def FeedObj (w : World) (c : Addr) (b k : Int) (o : Obj) : Prop :=
  ∃ t3 t5, o.IsDictOf (PySem.strKind PG w) [("cells", .ref c), ("count", .int k t3), ("blend", .int b t5)]

theorem fill (w : World) : (hd.heap_39 w.params = hd.heap_39 w.params ∧ PySem.Challenge.rw_nu0265_01 = PySem.Challenge.rw_nu0265_01) := by
  k_fill
  exact ⟨rfl, rfl⟩
end Mine
end
-- text Net
section
open PySem PySem.W PySem.Calls PyProof.Rows
set_option Elab.async false
set_option maxRecDepth 100000
set_option linter.unusedVariables false
namespace Mine
structure Circ where
  kinds : List Str
  parts : List (List Int)
  known : List (List Int × Int)

noncomputable def TupObj (p : List Int) (o : Obj) : Prop := ∃ ws n, o = { cls := .type "tuple", data := .seq (List.toArray ws) n } ∧ IntsAre ws p

inductive StrsAre : List Value → List Str → Prop
  | nil : StrsAre [] []
  | cons (x : Str) (t : Tok) {vs xs} : StrsAre vs xs → StrsAre (.str x t :: vs) (x :: xs)

inductive PartsAre (tl : List (Addr × Obj)) : List Value → List (List Int) → Prop
  | nil : PartsAre tl [] []
  | cons {t : Addr} {o : Obj} {p : List Int} {vs ps} : (t, o) ∈ tl → TupObj p o → PartsAre tl vs ps → PartsAre tl (.ref t :: vs) (p :: ps)

inductive KvAre : List (List Int × Addr × Value) → List (List Int × Int) → Prop
  | nil : KvAre [] []
  | cons (p : List Int) (a : Addr) (g : Int) (t : Tok) {xs kn} : KvAre xs kn → KvAre ((p, a, .int g t) :: xs) ((p, g) :: kn)

noncomputable def KnownObj (w : World) (tl : List (Addr × Obj)) (o : Obj) (kn : List (List Int × Int)) : Prop :=
  ∃ es ep xs, o.ExactDict ∧ o.data = .dict es ep ∧ es.toList = xs.map (entryOfKey (tupleKind (intKind PG w))) ∧ (∀ x ∈ xs, ∃ ot, (x.2.1, ot) ∈ tl ∧ TupObj x.1 ot) ∧ KvAre xs kn ∧ (kn.map (·.1)).Nodup

noncomputable def knownAt (kn : List (List Int × Int)) (p : List Int) : Option Int := (kn.find? fun x => decide (x.1 = p)).map (·.2)

structure NetObj (w : World) (tl : List (Addr × Obj)) (ok op od : Obj) (c : Circ) : Prop where
  kinds : ∃ kv nk, ok = listOf (List.toArray kv) nk ∧ StrsAre kv c.kinds
  parts : ∃ pv np, op = listOf (List.toArray pv) np ∧ PartsAre tl pv c.parts
  known : KnownObj w tl od c.known
  tup : ∀ p ∈ tl, p.2.cls = .type "tuple"

structure NA where
  net : Addr
  dn : Addr
  ks : Addr
  ps : Addr
  kn : Addr

/-- one constructor in place of a chain of ∃: a case stores its goal once -/
inductive NetDict (g : Heap) (a : NA) : Prop
  | mk (h1 : Int) (t1 : Tok) (h2 : Int) (t2 : Tok) (h3 : Int) (t3 : Tok) (n : Nat) (e : g.get? a.dn = some (dictOf [⟨h1, .str "kinds" t1, .ref a.ks⟩, ⟨h2, .str "parts_now" t2, .ref a.ps⟩, ⟨h3, .str "known" t3, .ref a.kn⟩] n)) : NetDict g a
inductive NetObjs (w : World) (h : Heap) (a : NA) (tl : List (Addr × Obj)) (c : Circ) : Prop
  | mk (ok op od : Obj) (g1 : h.get? a.ks = some ok) (g2 : h.get? a.ps = some op) (g3 : h.get? a.kn = some od) (o : NetObj w tl ok op od c) : NetObjs w h a tl c
/-- the object and its dict, kept; the three that turn, apart -/
structure NetG (g : Heap) (a : NA) : Prop where
  inst : g.get? a.net = some (instObj 120 a.dn)
  dict : NetDict g a
  n1 : @Ne Nat a.ks a.ps
  n2 : @Ne Nat a.ks a.kn
  n3 : @Ne Nat a.ps a.kn
  lo : (a.kn == sysModules) = false

structure NetPre (w : World) (g h : Heap) (a : NA) (tl : List (Addr × Obj)) (c : Circ) : Prop where
  G : NetG g a
  objs : NetObjs w h a tl c
  f1 : g.get? a.ks = none
  f2 : g.get? a.ps = none
  f3 : g.get? a.kn = none
  pool : ∀ p ∈ tl, g.get? p.1 = some p.2

noncomputable def Ne3 (a : NA) (x : Addr) : Prop := @Ne Nat x a.ks ∧ @Ne Nat x a.ps ∧ @Ne Nat x a.kn
inductive NetPost (w : World) (g h' : Heap) (a : NA) (tl : List (Addr × Obj)) (c : Circ) : Prop
  | mk (add : List (Addr × Obj)) (ok op od : Obj) (g1 : h'.get? a.ks = some ok) (g2 : h'.get? a.ps = some op) (g3 : h'.get? a.kn = some od) (o : NetObj w (add ++ tl) ok op od c) (ad : ∀ p ∈ add, h'.get? p.1 = some p.2 ∧ g.get? p.1 = none ∧ Ne3 a p.1) : NetPost w g h' a tl c

theorem StrsAre.length {vs xs} (h : StrsAre vs xs) : vs.length = xs.length := by
  induction h with
  | nil => rfl
  | cons _ _ _ ih => simp [ih]
theorem StrsAre.append {vs xs ws ys} (h : StrsAre vs xs) (k : StrsAre ws ys) : StrsAre (vs ++ ws) (xs ++ ys) := by
  induction h with
  | nil => exact k
  | cons x t _ ih => exact .cons x t ih
theorem StrsAre.at {vs xs} (h : StrsAre vs xs) {i : Nat} {v : Value} (hv : vs[i]? = some v) : ∃ x t, v = .str x t ∧ xs[i]? = some x := by
  induction h generalizing i with
  | nil => simp at hv
  | cons x t _ ih =>
    cases i with
    | zero => simp at hv; exact ⟨x, t, hv.symm, rfl⟩
    | succ i => simpa using ih (by simpa using hv)
section
variable {tl tl' : List (Addr × Obj)} {vs ws : List Value} {ps qs : List (List Int)}
theorem PartsAre.length (h : PartsAre tl vs ps) : vs.length = ps.length := by
  induction h with
  | nil => rfl
  | cons _ _ _ ih => simp [ih]
theorem PartsAre.append (h : PartsAre tl vs ps) (k : PartsAre tl ws qs) : PartsAre tl (vs ++ ws) (ps ++ qs) := by
  induction h with
  | nil => exact k
  | cons a b _ ih => exact .cons a b ih
theorem PartsAre.mono (h : PartsAre tl vs ps) (s : ∀ p ∈ tl, p ∈ tl') : PartsAre tl' vs ps := by
  induction h with
  | nil => exact .nil
  | cons a b _ ih => exact .cons (s _ a) b ih
theorem PartsAre.at (h : PartsAre tl vs ps) {i : Nat} {v : Value} (hv : vs[i]? = some v) : ∃ t o p, v = .ref t ∧ (t, o) ∈ tl ∧ TupObj p o ∧ ps[i]? = some p := by
  induction h generalizing i with
  | nil => simp at hv
  | @cons t o p _ _ a b _ ih =>
    cases i with
    | zero => simp at hv; exact ⟨t, o, p, hv.symm, a, b, rfl⟩
    | succ i => simpa using ih (by simpa using hv)
end
theorem KvAre.keys {xs kn} (h : KvAre xs kn) : xs.map (·.1) = kn.map (·.1) := by
  induction h with
  | nil => rfl
  | cons p a g t _ ih => simp [ih]
theorem KvAre.length {xs kn} (h : KvAre xs kn) : xs.length = kn.length := by
  induction h with
  | nil => rfl
  | cons p a g t _ ih => simp [ih]
theorem KvAre.append {xs kn ys km} (h : KvAre xs kn) (k : KvAre ys km) : KvAre (xs ++ ys) (kn ++ km) := by
  induction h with
  | nil => exact k
  | cons p a g t _ ih => exact .cons p a g t ih
theorem KvAre.some {xs kn} (h : KvAre xs kn) {p : List Int} {q : Addr × Value} (e : atKey xs p = some q) : ∃ g t, q.2 = .int g t ∧ knownAt kn p = some g := by
  induction h with
  | nil => simp [atKey] at e
  | @cons p' a g t xs' kn' _ ih =>
    by_cases hp : p' = p
    · simp [atKey, hp] at e
      exact ⟨g, t, by rw [← e], by simp [knownAt, hp]⟩
    · have e' : atKey xs' p = Option.some q := by simpa [atKey, hp] using e
      obtain ⟨g, t, h1, h2⟩ := ih e'
      exact ⟨g, t, h1, by simpa [knownAt, hp] using h2⟩
theorem KvAre.none {xs kn} (h : KvAre xs kn) {p : List Int} : (atKey xs p).isSome = (knownAt kn p).isSome := by
  induction h with
  | nil => rfl
  | cons p' a g t _ ih =>
    by_cases hp : p' = p
    · simp [atKey, knownAt, hp]
    · simpa [atKey, knownAt, hp] using ih

theorem itemsAre_ints {prog : Program} {w : World} {vs ns} (h : IntsAre vs ns) : PySem.ItemsAre (intKind prog w) ns vs := by
  induction h with
  | nil => exact .nil
  | cons n t _ ih => exact .cons (intKind_is _ _ _ _) ih
theorem TupObj.key {w : World} {h : Heap} {a : Addr} {o : Obj} {p : List Int} (t : TupObj p o) (ho : h.get? a = some o) : IsTupleKey (intKind PG w) h p a := by
  obtain ⟨ws, n, rfl, hi⟩ := t
  exact ⟨_, _, n, ho, rfl, rfl, itemsAre_ints hi⟩
theorem TupObj.isTup {h : Heap} {a : Addr} {o : Obj} {p : List Int} (t : TupObj p o) (ho : h.get? a = some o) : ∃ ws, IsTup h a (List.toArray ws) ∧ IntsAre ws p := by
  obtain ⟨ws, n, rfl, hi⟩ := t
  exact ⟨ws, ⟨_, ho, rfl, n, rfl⟩, hi⟩

theorem KnownObj.dictH {w : World} {tl : List (Addr × Obj)} {h : Heap} {d : Addr} {o : Obj} {kn} (K : KnownObj w tl o kn) (ho : h.get? d = some o) (ht : ∀ p ∈ tl, h.get? p.1 = some p.2) :
    ∃ xs, h.DictOfH (tupleKind (intKind PG w)) d xs ∧ KvAre xs kn := by
  obtain ⟨es, ep, xs, hx, hd, he, hk, hv, hn⟩ := K
  exact ⟨xs, ⟨o, es, ep, ho, hx, hd, he, fun x hxm => let ⟨ot, hm, t⟩ := hk x hxm; t.key (ht _ hm), hv.keys ▸ hn⟩, hv⟩

section
variable {w : World} {A : Around} {E : Value → Shared → Prop} {s : Shared} {g : Heap} {L d a : Addr} {m : Str → Option Value} {news : List (Addr × Obj)} {tl : List (Addr × Obj)} {o ot : Obj} {kn : List (List Int × Int)} {p : List Int}
theorem known_notin {Q : Value → Shared → Prop} (hu : A.units + 1 < cLine) (N : News g L s.heap news) (hm : (d, o) ∈ news) (lo : (d == sysModules) = false) (K : KnownObj w tl o kn) (ht : ∀ p ∈ tl, s.heap.get? p.1 = some p.2) (ha : s.heap.get? a = some ot) (hp : TupObj p ot)
    (k : ∀ tk, Q (.bool (!(knownAt kn p).isSome)) { s with toks := tk }) : wpAny (model PG w) A (compareOp .NotIn (.ref a) (.ref d)) Q E s := by
  obtain ⟨xs, hD, hv⟩ := K.dictH (N.get hm) ht
  refine wpAny_notIn_heap (knd := tupleKind (intKind PG w)) (tupleKind_room_in1 hu) (hp.key ha) lo hD ?_
  rw [hv.none]; exact k _
theorem known_item {value slice : Expr} {Q : Value → Shared → Prop} {gg : Int} (hu : A.units + 1 < cLine) (N : News g L s.heap news) (hm : (d, o) ∈ news) (K : KnownObj w tl o kn) (ht : ∀ p ∈ tl, s.heap.get? p.1 = some p.2) (ha : s.heap.get? a = some ot) (hp : TupObj p ot)
    (hk : knownAt kn p = some gg) (k : ∀ t tk, Q (.int gg t) { s with toks := tk })
    (hs : subscripted slice false (.ref d) (.ref a) = operate [.ref d, .ref a] (getItem (.ref d) (.ref a)) := by with_unfolding_all rfl) :
    wpAny (model PG w) A (subscriptTail value slice (.ref d) (.ref a)) Q E s := by
  obtain ⟨xs, hD, hv⟩ := K.dictH (N.get hm) ht
  have hsome : (atKey xs p).isSome := by rw [hv.none, hk]; rfl
  obtain ⟨q, hq⟩ := Option.isSome_iff_exists.mp hsome
  obtain ⟨g', t, e1, e2⟩ := hv.some hq
  rw [hk] at e2
  cases e2
  refine tail_any hD.typeIs slot_dict_getitem.lookup (wpAny_getItem_heap (knd := tupleKind (intKind PG w)) (tupleKind_room_in1 hu) (hp.key ha) hD hq ?_) hs
  rw [e1]; exact k _ _
theorem known_set {Q : Unit → Shared → Prop} {gf : Obj → List (Addr × Obj)} {gg : Int} {t : Tok} (hu : A.units + 1 < cLine) (F : Fr g L s.heap m) (N : News g L s.heap news) (U : UpdF d o news gf) (K : KnownObj w tl o kn) (ht : ∀ p ∈ tl, s.heap.get? p.1 = some p.2) (ha : (a, ot) ∈ tl) (hp : TupObj p ot)
    (hk : knownAt kn p = none) (hsz : kn.length ≤ sizeLine) (k : ∀ h' o' tk, Fr g L h' m → News g L h' (gf o') → KnownObj w tl o' (kn ++ [(p, gg)]) → Q () { s with heap := h', toks := tk }) :
    wpAny (model PG w) A (setItem (.ref d) (.ref a) (.int gg t)) Q E s := by
  obtain ⟨pre, post, rfl, hg, h1, h2⟩ := U.split
  have hm := N (d, o) (List.mem_append_right _ (.head _))
  obtain ⟨es, ep, xs, hx, hd, he, hkk, hv, hn⟩ := K
  have hD : s.heap.DictOfH (tupleKind (intKind PG w)) d xs := ⟨o, es, ep, hm.1, hx, hd, he, fun x hxm => let ⟨ot, hm, t⟩ := hkk x hxm; t.key (ht _ hm), hv.keys ▸ hn⟩
  have hnone : atKey xs p = none := by
    have := hv.none (p := p)
    rw [hk] at this
    cases e : atKey xs p with
    | none => rfl
    | some q => rw [e] at this; cases this
  refine wpAny_setItem_heap (hsz := by rw [hv.length]; exact hsz) (knd := tupleKind (intKind PG w)) (tupleKind_room_in1 hu) (hp.key (ht _ ha)) hD fun h' hm' hs => ?_
  obtain ⟨o', es', ep', ho', hx', hd', he', _, hn'⟩ := hm'
  rw [storedH_new hnone] at he' hn'
  have hv' : KvAre (xs ++ [(p, a, .int gg t)]) (kn ++ [(p, gg)]) := hv.append (.cons p a gg t .nil)
  refine k h' o' _ (F.change hs hm.2.1 hm.2.2) (hg o' ▸ N.setIn h1 h2 hs ho') ⟨es', ep', _, hx', hd', he', fun x hxm => ?_, hv', hv'.keys ▸ hn'⟩
  rcases List.mem_append.mp hxm with hxm | hxm
  · exact hkk x hxm
  · rw [List.mem_singleton.mp hxm]; exact ⟨ot, ha, hp⟩
theorem KnownObj.mono {tl' : List (Addr × Obj)} (K : KnownObj w tl o kn) (s : ∀ p ∈ tl, p ∈ tl') : KnownObj w tl' o kn := by
  obtain ⟨es, ep, xs, hx, hd, he, hk, hv, hn⟩ := K
  exact ⟨es, ep, xs, hx, hd, he, fun x hxm => let ⟨ot, hm, t⟩ := hk x hxm; ⟨ot, s _ hm, t⟩, hv, hn⟩
end
end Mine
namespace Mine
noncomputable def ab (g : Int) : Int := if g < 0 then -g else g
/-- all of it is kept: for calls that only read -/
structure NetRead (w : World) (g : Heap) (a : NA) (tl : List (Addr × Obj)) (c : Circ) : Prop where
  G : NetG g a
  objs : NetObjs w g a tl c
  pool : ∀ p ∈ tl, g.get? p.1 = some p.2
section
variable {w : World} {A : Around} {E : Value → Shared → Prop} {s : Shared} {g : Heap} {L l : Addr} {m : Str → Option Value}
theorem inst_g {h : Heap} {x C dx : Addr} {od : Obj} {sl : Array (Option Value)} (F : Fr g L h m) (h1 : g.get? x = some ⟨.ref C, some dx, .plain, sl⟩) (h2 : g.get? dx = some od) :
    InstAt h x ⟨.ref C, some dx, .plain, sl⟩ C (some od) := ⟨F.keep _ _ h1, rfl, rfl, F.keep _ _ h2⟩
theorem item_g {value slice : Expr} {vs : List Value} {k : Int} {u : Tok} {Q : Value → Shared → Prop} (F : Fr g L s.heap m) (hl : g.IsList l (List.toArray vs)) (h0 : 0 ≤ k) (hhi : k < 2 ^ 63) (hlt : k.toNat < vs.length)
    (h : ∀ v, vs[k.toNat]? = some v → Q v s)
    (hs : subscripted slice false (.ref l) (.int k u) = operate [.ref l, .int k u] (getItem (.ref l) (.int k u)) := by with_unfolding_all rfl) :
    wpAny (model PG w) A (subscriptTail value slice (.ref l) (.int k u)) Q E s := by
  have hl' : s.heap.IsList l (List.toArray vs) := let ⟨o, ho, r⟩ := hl; ⟨o, F.keep _ _ ho, r⟩
  have hv := List.getElem?_eq_getElem hlt
  exact tail_any hl'.typeIs slot_list_getitem.lookup (wpAny_getItem_list hl' h0 hhi (by simp [hlt]) (h _ hv)) hs
theorem len_g {vs : List Value} {Q : Value → Shared → Prop} (F : Fr g L s.heap m) (hl : g.IsList l (List.toArray vs)) (hz : vs.length ≤ 100000) (h : ∀ t tk, Q (.int (vs.length : Int) t) { s with toks := tk }) :
    wpAny (model PG w) A (call (.builtin "len") [.ref l]) Q E s := by
  have hl' : s.heap.IsList l (List.toArray vs) := let ⟨o, ho, r⟩ := hl; ⟨o, F.keep _ _ ho, r⟩
  refine PyProof.Rows.len_list hl' (by simp; omega) ?_
  simp only [List.size_toArray]
  exact h _ _
theorem len_n {news : List (Addr × Obj)} {its : Array Value} {n : Nat} {Q : Value → Shared → Prop} (N : News g L s.heap news) (hm : (l, PySem.W.listOf its n) ∈ news) (hz : its.size ≤ 100000) (h : ∀ t tk, Q (.int (its.size : Int) t) { s with toks := tk }) :
    wpAny (model PG w) A (call (.builtin "len") [.ref l]) Q E s :=
  PyProof.Rows.len_list (items := its) ⟨_, N.get hm, rfl, n, rfl⟩ (by omega) (h _ _)
theorem item_n {value slice : Expr} {news : List (Addr × Obj)} {its : Array Value} {n : Nat} {k : Int} {u : Tok} {Q : Value → Shared → Prop} (N : News g L s.heap news) (hm : (l, PySem.W.listOf its n) ∈ news) (h0 : 0 ≤ k) (hhi : k < 2 ^ 63) (hlt : k.toNat < its.size)
    (h : ∀ v, its[k.toNat]? = some v → Q v s)
    (hs : subscripted slice false (.ref l) (.int k u) = operate [.ref l, .int k u] (getItem (.ref l) (.int k u)) := by with_unfolding_all rfl) :
    wpAny (model PG w) A (subscriptTail value slice (.ref l) (.int k u)) Q E s := by
  have hl' : s.heap.IsList l its := ⟨_, N.get hm, rfl, n, rfl⟩
  have hv := Array.getElem?_eq_getElem hlt
  exact tail_any hl'.typeIs slot_list_getitem.lookup (wpAny_getItem_list hl' h0 hhi hv (h _ hv)) hs
end
end Mine
end
local macro_rules | `(tactic| k_inst) => `(tactic| exact Mine.inst_g (by k_asm) (by assumption) (by assumption))
-- text Net2
section
open PySem PySem.W PySem.Calls PyProof.Rows
set_option Elab.async false
set_option maxRecDepth 100000
set_option linter.unusedVariables false
namespace Mine
inductive Upd3 (a1 a2 a3 : Addr) (o1 o2 o3 : Obj) : List (Addr × Obj) → (Obj → Obj → Obj → List (Addr × Obj)) → Prop
  | nil : Upd3 a1 a2 a3 o1 o2 o3 [] (fun _ _ _ => [])
  | one {r G} : Upd3 a1 a2 a3 o1 o2 o3 r G → Upd3 a1 a2 a3 o1 o2 o3 ((a1, o1) :: r) (fun x y z => (a1, x) :: G x y z)
  | two {r G} : Upd3 a1 a2 a3 o1 o2 o3 r G → Upd3 a1 a2 a3 o1 o2 o3 ((a2, o2) :: r) (fun x y z => (a2, y) :: G x y z)
  | three {r G} : Upd3 a1 a2 a3 o1 o2 o3 r G → Upd3 a1 a2 a3 o1 o2 o3 ((a3, o3) :: r) (fun x y z => (a3, z) :: G x y z)
  | skip {p r G} : @Ne Nat p.1 a1 → @Ne Nat p.1 a2 → @Ne Nat p.1 a3 → Upd3 a1 a2 a3 o1 o2 o3 r G → Upd3 a1 a2 a3 o1 o2 o3 (p :: r) (fun x y z => p :: G x y z)
  | tail {r} : (∀ p ∈ r, @Ne Nat p.1 a1 ∧ @Ne Nat p.1 a2 ∧ @Ne Nat p.1 a3) → Upd3 a1 a2 a3 o1 o2 o3 r (fun _ _ _ => r)
theorem Upd3.all {a1 a2 a3 : Addr} {o1 o2 o3 : Obj} {news : List (Addr × Obj)} {G : Obj → Obj → Obj → List (Addr × Obj)} (U : Upd3 a1 a2 a3 o1 o2 o3 news G) {P : Addr × Obj → Prop} {x y z : Obj}
    (h : ∀ p ∈ news, @Ne Nat p.1 a1 → @Ne Nat p.1 a2 → @Ne Nat p.1 a3 → P p) (h1 : P (a1, x)) (h2 : P (a2, y)) (h3 : P (a3, z)) : ∀ p ∈ G x y z, P p := by
  induction U with
  | nil => intro p hp; cases hp
  | one _ ih =>
    intro p hp
    rcases List.mem_cons.mp hp with rfl | hp
    · exact h1
    · exact ih (fun q hq => h q (.tail _ hq)) p hp
  | two _ ih =>
    intro p hp
    rcases List.mem_cons.mp hp with rfl | hp
    · exact h2
    · exact ih (fun q hq => h q (.tail _ hq)) p hp
  | three _ ih =>
    intro p hp
    rcases List.mem_cons.mp hp with rfl | hp
    · exact h3
    · exact ih (fun q hq => h q (.tail _ hq)) p hp
  | skip e1 e2 e3 _ ih =>
    intro p hp
    rcases List.mem_cons.mp hp with rfl | hp
    · exact h _ (.head _) e1 e2 e3
    · exact ih (fun q hq => h q (.tail _ hq)) p hp
  | tail ht =>
    intro p hp
    exact h p hp (ht p hp).1 (ht p hp).2.1 (ht p hp).2.2

section
variable {w : World} {mean : ExcName → Option Value} {mg mb : Str → Option Value} {base g : Heap} {dp un : Nat} {gd : Option (List Code)} {fr : List Env} {s : Shared}
theorem use_net {P₀ : Heap → Prop} {Post : Heap → Value → Heap → Heap → Prop} {f : Addr} {d u : Nat} {vs : List Value} {a : NA} {tl : List (Addr × Obj)} {c : Circ}
    (cc : Ctr w mean mg mb f d u vs (fun g h => NetPre w g h a tl c ∧ P₀ g) Post)
    {A₀ : Around} {env : Env} {L : Addr} {m : Str → Option Value} {Q E : Value → Shared → Prop} {news : List (Addr × Obj)} {G : Obj → Obj → Obj → List (Addr × Obj)} {ok op od : Obj}
    (B : Below A₀ base fr g) (F : Fr g L s.heap m) (X : (hd.heap_39 w.params).In g) (T : TT mean mg mb g) (N : News g L s.heap news) (hf : env.frame = some L) (hke : env.scope.kind = .function)
    (m1 : (a.ks, ok) ∈ news) (m2 : (a.ps, op) ∈ news) (m3 : (a.kn, od) ∈ news) (U : Upd3 a.ks a.ps a.kn ok op od news G) (O : NetObj w tl ok op od c)
    (hd' : dp + d < recursionLimit) (hu : un + u < cLine)
    (hpre : ∀ g₂ : Heap, g.StaysIn g₂ → (∀ p ∈ news, @Ne Nat p.1 a.ks → @Ne Nat p.1 a.ps → @Ne Nat p.1 a.kn → g₂.get? p.1 = some p.2) → NetG g₂ a ∧ (∀ p ∈ tl, g₂.get? p.1 = some p.2) ∧ P₀ g₂)
    (k : ∀ v h' tk' g₂, Fr g L h' m → g.StaysIn g₂ → (∃ o, g₂.get? L = some o) → (∀ p ∈ news, @Ne Nat p.1 a.ks → @Ne Nat p.1 a.ps → @Ne Nat p.1 a.kn → g₂.get? p.1 = some p.2) → g₂.StaysIn h' → Post g₂ v s.heap h' →
      (∀ x y z, h'.get? a.ks = some x → h'.get? a.ps = some y → h'.get? a.kn = some z → News g L h' (G x y z)) → Q v { s with heap := h', toks := tk' }) :
    wpAny (model PG w) (ar dp un gd (env :: fr)) (call (.ref f) vs) Q E s := by
  have w1 := N _ m1
  have w2 := N _ m2
  have w3 := N _ m3
  have NW : News g L s.heap [(a.ks, ok), (a.ps, op), (a.kn, od)] := by
    intro p hp
    simp only [List.mem_cons, List.not_mem_nil, or_false] at hp
    rcases hp with rfl | rfl | rfl
    · exact w1
    · exact w2
    · exact w3
  have hst : g.StaysIn (hideAll s.heap [a.ks, a.ps, a.kn]) := fun b x e => hideAll_get _ (F.keep b x e) fun q => by
    simp only [List.mem_cons, List.not_mem_nil, or_false] at q
    rcases q with rfl | rfl | rfl
    · rw [w1.2.2] at e; cases e
    · rw [w2.2.2] at e; cases e
    · rw [w3.2.2] at e; cases e
  have hk : ∀ p ∈ news, @Ne Nat p.1 a.ks → @Ne Nat p.1 a.ps → @Ne Nat p.1 a.kn → (hideAll s.heap [a.ks, a.ps, a.kn]).get? p.1 = some p.2 := fun p hp e1 e2 e3 => hideAll_get _ (N p hp).1 fun q => by
    simp only [List.mem_cons, List.not_mem_nil, or_false] at q
    rcases q with q | q | q
    · exact e1 q
    · exact e2 q
    · exact e3 q
  have hL : ∃ o, (hideAll s.heap [a.ks, a.ps, a.kn]).get? L = some o := by
    obtain ⟨oL, _, _, h1, _⟩ := F.ns
    refine ⟨oL, hideAll_get _ h1 fun q => ?_⟩
    simp only [List.mem_cons, List.not_mem_nil, or_false] at q
    rcases q with q | q | q
    · exact w1.2.1 q.symm
    · exact w2.2.1 q.symm
    · exact w3.2.1 q.symm
  obtain ⟨hG, hT, hP⟩ := hpre _ hst hk
  refine use_ctr cc [(a.ks, ok), (a.ps, op), (a.kn, od)] B F X T NW hf hke hd' hu ⟨⟨hG, ⟨ok, op, od, w1.1, w2.1, w3.1, O⟩, hideAll_none _ (by simp), hideAll_none _ (by simp), hideAll_none _ (by simp), hT⟩, hP⟩ ?_
  intro v h' tk' F' k' hp
  refine k v h' tk' _ F' hst hL hk k' hp fun x y z hx hy hz => U.all (P := fun p => h'.get? p.1 = some p.2 ∧ p.1 ≠ L ∧ g.get? p.1 = none) (fun p hp e1 e2 e3 => ⟨k' _ _ (hk p hp e1 e2 e3), (N p hp).2.1, (N p hp).2.2⟩) ⟨hx, w1.2⟩ ⟨hy, w2.2⟩ ⟨hz, w3.2⟩

/-- a call that only reads -/
theorem use_read {P₀ : Heap → Prop} {PV : Heap → Value → Heap → Prop} {f : Addr} {d u : Nat} {vs : List Value}
    (cc : Ctr w mean mg mb f d u vs (fun g h => P₀ g) (fun g v _h h' => PV g v h'))
    {A₀ : Around} {env : Env} {L : Addr} {m : Str → Option Value} {Q E : Value → Shared → Prop} {news : List (Addr × Obj)}
    (B : Below A₀ base fr g) (F : Fr g L s.heap m) (X : (hd.heap_39 w.params).In g) (T : TT mean mg mb g) (N : News g L s.heap news) (hf : env.frame = some L) (hke : env.scope.kind = .function)
    (hd' : dp + d < recursionLimit) (hu : un + u < cLine) (hpre : P₀ s.heap)
    (k : ∀ v h' tk', Fr g L h' m → News g L h' news → s.heap.StaysIn h' → PV s.heap v h' → Q v { s with heap := h', toks := tk' }) :
    wpAny (model PG w) (ar dp un gd (env :: fr)) (call (.ref f) vs) Q E s := by
  refine use_ctr cc [] B F X T News.nil hf hke hd' hu hpre fun v h' tk' F' k' hp => ?_
  exact k v h' tk' F' (fun p hp => ⟨k' _ _ (N p hp).1, (N p hp).2⟩) k' hp
theorem NetG.keeps {g g' : Heap} {a : NA} (G : NetG g a) (k : g.StaysIn g') : NetG g' a :=
  let ⟨h1, ⟨x1, x2, x3, x4, x5, x6, x7, h2⟩, n1, n2, n3, lo⟩ := G; ⟨k _ _ h1, ⟨x1, x2, x3, x4, x5, x6, x7, k _ _ h2⟩, n1, n2, n3, lo⟩
/-- the ledger with the circuit's three turned, and a tail that may grow -/
inductive UpdT (a1 a2 a3 : Addr) (o1 o2 o3 : Obj) (R : List (Addr × Obj)) : List (Addr × Obj) → (Obj → Obj → Obj → List (Addr × Obj) → List (Addr × Obj)) → Prop
  | one {r G} : UpdT a1 a2 a3 o1 o2 o3 R r G → UpdT a1 a2 a3 o1 o2 o3 R ((a1, o1) :: r) (fun x y z t => (a1, x) :: G x y z t)
  | two {r G} : UpdT a1 a2 a3 o1 o2 o3 R r G → UpdT a1 a2 a3 o1 o2 o3 R ((a2, o2) :: r) (fun x y z t => (a2, y) :: G x y z t)
  | three {r G} : UpdT a1 a2 a3 o1 o2 o3 R r G → UpdT a1 a2 a3 o1 o2 o3 R ((a3, o3) :: r) (fun x y z t => (a3, z) :: G x y z t)
  | skip {p r G} : @Ne Nat p.1 a1 → @Ne Nat p.1 a2 → @Ne Nat p.1 a3 → UpdT a1 a2 a3 o1 o2 o3 R r G → UpdT a1 a2 a3 o1 o2 o3 R (p :: r) (fun x y z t => p :: G x y z t)
  | tail : UpdT a1 a2 a3 o1 o2 o3 R R (fun _ _ _ t => t)
  | own {own} : (∀ p ∈ own, @Ne Nat p.1 a1 ∧ @Ne Nat p.1 a2 ∧ @Ne Nat p.1 a3) → UpdT a1 a2 a3 o1 o2 o3 R (R ++ own) (fun _ _ _ t => t ++ own)
theorem UpdT.all {a1 a2 a3 : Addr} {o1 o2 o3 : Obj} {R news : List (Addr × Obj)} {G : Obj → Obj → Obj → List (Addr × Obj) → List (Addr × Obj)} (U : UpdT a1 a2 a3 o1 o2 o3 R news G) {P : Addr × Obj → Prop} {x y z : Obj} {R' : List (Addr × Obj)}
    (h : ∀ p ∈ news, @Ne Nat p.1 a1 → @Ne Nat p.1 a2 → @Ne Nat p.1 a3 → P p) (h1 : P (a1, x)) (h2 : P (a2, y)) (h3 : P (a3, z)) (h4 : ∀ p ∈ R', P p) : ∀ p ∈ G x y z R', P p := by
  induction U with
  | one _ ih =>
    intro p hp
    rcases List.mem_cons.mp hp with rfl | hp
    · exact h1
    · exact ih (fun q hq => h q (.tail _ hq)) p hp
  | two _ ih =>
    intro p hp
    rcases List.mem_cons.mp hp with rfl | hp
    · exact h2
    · exact ih (fun q hq => h q (.tail _ hq)) p hp
  | three _ ih =>
    intro p hp
    rcases List.mem_cons.mp hp with rfl | hp
    · exact h3
    · exact ih (fun q hq => h q (.tail _ hq)) p hp
  | skip e1 e2 e3 _ ih =>
    intro p hp
    rcases List.mem_cons.mp hp with rfl | hp
    · exact h _ (.head _) e1 e2 e3
    · exact ih (fun q hq => h q (.tail _ hq)) p hp
  | tail => exact h4
  | own ho =>
    intro p hp
    rcases List.mem_append.mp hp with hp | hp
    · exact h4 p hp
    · exact h p (List.mem_append_right _ hp) (ho p hp).1 (ho p hp).2.1 (ho p hp).2.2
theorem UpdT.sub {a1 a2 a3 : Addr} {o1 o2 o3 : Obj} {R news : List (Addr × Obj)} {G : Obj → Obj → Obj → List (Addr × Obj) → List (Addr × Obj)} (U : UpdT a1 a2 a3 o1 o2 o3 R news G) : ∀ p ∈ R, p ∈ news := by
  induction U with
  | one _ ih => exact fun p hp => .tail _ (ih p hp)
  | two _ ih => exact fun p hp => .tail _ (ih p hp)
  | three _ ih => exact fun p hp => .tail _ (ih p hp)
  | skip _ _ _ _ ih => exact fun p hp => .tail _ (ih p hp)
  | tail => exact fun p hp => hp
  | own _ => exact fun p hp => List.mem_append_left _ hp
/-- where the circuit's tuples lie: in the kept part, or in the ledger's tail -/
structure Pool (g : Heap) (a : NA) (R tl : List (Addr × Obj)) : Prop where
  inn : ∀ p ∈ tl, p ∈ R ∨ g.get? p.1 = some p.2
  ne : ∀ p ∈ R, Ne3 a p.1
theorem Pool.start {g : Heap} {a : NA} {tl : List (Addr × Obj)} (h : ∀ p ∈ tl, g.get? p.1 = some p.2) : Pool g a [] tl := ⟨fun p hp => .inr (h p hp), fun _ hp => nomatch hp⟩
theorem Pool.add {g : Heap} {a : NA} {R tl add : List (Addr × Obj)} (P : Pool g a R tl) (h : ∀ p ∈ add, Ne3 a p.1) : Pool g a (add ++ R) (add ++ tl) :=
  ⟨fun p hp => (List.mem_append.mp hp).elim (fun h => .inl (List.mem_append_left _ h)) fun h => (P.inn p h).imp (List.mem_append_right _) id, fun p hp => (List.mem_append.mp hp).elim (h p) (P.ne p)⟩
theorem use_netM {P₀ : Heap → Prop} {res : Circ × Int} {f : Addr} {d u : Nat} {vs : List Value} {a : NA} {tl : List (Addr × Obj)} {c : Circ}
    (cc : Ctr w mean mg mb f d u vs (fun g h => NetPre w g h a tl c ∧ P₀ g) (fun g v _ h' => (∃ t, v = .int res.2 t) ∧ NetPost w g h' a tl res.1))
    {A₀ : Around} {env : Env} {L : Addr} {m : Str → Option Value} {Q E : Value → Shared → Prop} {R news : List (Addr × Obj)} {G : Obj → Obj → Obj → List (Addr × Obj) → List (Addr × Obj)} {ok op od : Obj}
    (B : Below A₀ base fr g) (F : Fr g L s.heap m) (X : (hd.heap_39 w.params).In g) (T : TT mean mg mb g) (N : News g L s.heap news) (hf : env.frame = some L) (hke : env.scope.kind = .function)
    (m1 : (a.ks, ok) ∈ news) (m2 : (a.ps, op) ∈ news) (m3 : (a.kn, od) ∈ news) (U : UpdT a.ks a.ps a.kn ok op od R news G) (O : NetObj w tl ok op od c) (po : Pool g a R tl)
    (hd' : dp + d < recursionLimit) (hu : un + u < cLine)
    (hpre : ∀ g₂ : Heap, g.StaysIn g₂ → (∀ p ∈ news, @Ne Nat p.1 a.ks → @Ne Nat p.1 a.ps → @Ne Nat p.1 a.kn → g₂.get? p.1 = some p.2) → NetG g₂ a ∧ P₀ g₂)
    (k : ∀ t h' tk' ok' op' od' add, Fr g L h' m → News g L h' (G ok' op' od' (add ++ R)) → NetObj w (add ++ tl) ok' op' od' res.1 → Pool g a (add ++ R) (add ++ tl) → (∀ p ∈ add, ∀ q ∈ news, @Ne Nat p.1 q.1) → Q (.int res.2 t) { s with heap := h', toks := tk' }) :
    wpAny (model PG w) (ar dp un gd (env :: fr)) (call (.ref f) vs) Q E s := by
  have w1 := N _ m1
  have w2 := N _ m2
  have w3 := N _ m3
  have NW : News g L s.heap [(a.ks, ok), (a.ps, op), (a.kn, od)] := by
    intro p hp
    simp only [List.mem_cons, List.not_mem_nil, or_false] at hp
    rcases hp with rfl | rfl | rfl
    · exact w1
    · exact w2
    · exact w3
  have hst : g.StaysIn (hideAll s.heap [a.ks, a.ps, a.kn]) := fun b x e => hideAll_get _ (F.keep b x e) fun q => by
    simp only [List.mem_cons, List.not_mem_nil, or_false] at q
    rcases q with rfl | rfl | rfl
    · rw [w1.2.2] at e; cases e
    · rw [w2.2.2] at e; cases e
    · rw [w3.2.2] at e; cases e
  have hk : ∀ p ∈ news, @Ne Nat p.1 a.ks → @Ne Nat p.1 a.ps → @Ne Nat p.1 a.kn → (hideAll s.heap [a.ks, a.ps, a.kn]).get? p.1 = some p.2 := fun p hp e1 e2 e3 => hideAll_get _ (N p hp).1 fun q => by
    simp only [List.mem_cons, List.not_mem_nil, or_false] at q
    rcases q with q | q | q
    · exact e1 q
    · exact e2 q
    · exact e3 q
  have hL : (hideAll s.heap [a.ks, a.ps, a.kn]).get? L ≠ none := by
    obtain ⟨oL, _, _, h1, _⟩ := F.ns
    rw [hideAll_get [a.ks, a.ps, a.kn] h1 fun q => ?_]
    · exact fun e => nomatch e
    · simp only [List.mem_cons, List.not_mem_nil, or_false] at q
      rcases q with q | q | q
      · exact w1.2.1 q.symm
      · exact w2.2.1 q.symm
      · exact w3.2.1 q.symm
  obtain ⟨hG, hP⟩ := hpre _ hst hk
  have hT : ∀ p ∈ tl, (hideAll s.heap [a.ks, a.ps, a.kn]).get? p.1 = some p.2 := fun p hp => by
    rcases po.inn p hp with hp | hp
    · exact hk p (U.sub p hp) (po.ne p hp).1 (po.ne p hp).2.1 (po.ne p hp).2.2
    · exact hst _ _ hp
  refine use_ctr cc [(a.ks, ok), (a.ps, op), (a.kn, od)] B F X T NW hf hke hd' hu ⟨⟨hG, ⟨ok, op, od, w1.1, w2.1, w3.1, O⟩, hideAll_none _ (by simp), hideAll_none _ (by simp), hideAll_none _ (by simp), hT⟩, hP⟩ ?_
  rintro v h' tk' F' k' ⟨⟨t, rfl⟩, add, ok', op', od', r1, r2, r3, O', ha⟩
  have hne : ∀ p ∈ add, ∀ q ∈ news, @Ne Nat p.1 q.1 := fun p hp q hq e => by
    by_cases e1 : q.1 = a.ks
    · exact (ha p hp).2.2.1 (e.trans e1)
    by_cases e2 : q.1 = a.ps
    · exact (ha p hp).2.2.2.1 (e.trans e2)
    by_cases e3 : q.1 = a.kn
    · exact (ha p hp).2.2.2.2 (e.trans e3)
    have h1 := hk q hq e1 e2 e3
    have h2 := (ha p hp).2.1
    have e' : p.1 = q.1 := e
    rw [← e'] at h1
    exact nomatch (h2.symm.trans h1)
  refine k t h' tk' ok' op' od' add F' (U.all (P := fun p => h'.get? p.1 = some p.2 ∧ p.1 ≠ L ∧ g.get? p.1 = none) (fun p hp e1 e2 e3 => ⟨k' _ _ (hk p hp e1 e2 e3), (N p hp).2.1, (N p hp).2.2⟩) ⟨r1, w1.2⟩ ⟨r2, w2.2⟩ ⟨r3, w3.2⟩ fun p hp => ?_) O' (po.add fun p hp => (ha p hp).2.2) hne
  rcases List.mem_append.mp hp with hp | hp
  · refine ⟨(ha p hp).1, fun e => ?_, ?_⟩
    · have h2 := (ha p hp).2.1
      rw [e] at h2
      exact hL h2
    · cases q : g.get? p.1 with
      | none => rfl
      | some o => have h2 := (ha p hp).2.1; have h3 := hst _ _ q; exact nomatch (h2.symm.trans h3)
  · have hpn := U.sub p hp
    exact ⟨k' _ _ (hk p hpn (po.ne p hp).1 (po.ne p hp).2.1 (po.ne p hp).2.2), (N p hpn).2.1, (N p hpn).2.2⟩
end
end Mine
end
-- text Seqs
section
open PySem PySem.W PySem.Calls PyProof.Rows
set_option Elab.async false
set_option maxRecDepth 100000
set_option linter.unusedVariables false
namespace Mine
noncomputable def ins (x : Int) : List Int → List Int
  | [] => [x]
  | y :: r => if x ≤ y then x :: y :: r else y :: ins x r
noncomputable def isort : List Int → List Int
  | [] => []
  | x :: r => ins x (isort r)
theorem ins_perm (x : Int) : ∀ l : List Int, (ins x l).Perm (x :: l)
  | [] => .refl _
  | y :: r => by
    unfold ins
    split
    · exact .refl _
    · exact ((ins_perm x r).cons y).trans (List.Perm.swap x y r)
theorem isort_perm : ∀ l : List Int, (isort l).Perm l
  | [] => .refl _
  | x :: r => (ins_perm x _).trans ((isort_perm r).cons x)
theorem ins_sorted (x : Int) : ∀ {l : List Int}, l.Pairwise (· ≤ ·) → (ins x l).Pairwise (· ≤ ·)
  | [], _ => by simp [ins]
  | y :: r, h => by
    unfold ins
    have h' := List.pairwise_cons.mp h
    split
    · rename_i hxy
      refine List.pairwise_cons.mpr ⟨fun z hz => ?_, h⟩
      rcases List.mem_cons.mp hz with rfl | hz
      · exact hxy
      · exact Int.le_trans hxy (h'.1 z hz)
    · rename_i hxy
      refine List.pairwise_cons.mpr ⟨fun z hz => ?_, ins_sorted x h'.2⟩
      rcases List.mem_cons.mp ((ins_perm x r).mem_iff.mp hz) with rfl | hz
      · omega
      · exact h'.1 z hz
theorem isort_sorted : ∀ l : List Int, (isort l).Pairwise (· ≤ ·)
  | [] => .nil
  | x :: r => ins_sorted x (isort_sorted r)
theorem isort_of_perm {a b : List Int} (p : a.Perm b) (o : a.Pairwise (· ≤ ·)) : a = isort b := lks_uniq (p.trans (isort_perm b).symm) o (isort_sorted b)

theorem intsAre_of : ∀ {vs : List Value} {ns : List Int}, vs.length = ns.length → (∀ (j : Nat) (v : Value), vs[j]? = some v → ∃ n t, ns[j]? = some n ∧ v = .int n t) → IntsAre vs ns
  | [], [], _, _ => .nil
  | [], _ :: _, h, _ => by simp at h
  | _ :: _, [], h, _ => by simp at h
  | v :: vs, n :: ns, h, k => by
    obtain ⟨n', t, e1, e2⟩ := k 0 v rfl
    simp at e1
    subst e1 e2
    exact .cons n t (intsAre_of (by simpa using h) fun j u hu => by simpa using k (j + 1) u (by simpa using hu))

section
variable {w : World} {A : Around} {E : Value → Shared → Prop} {s : Shared} {g : Heap} {L l D : Addr} {m : Str → Option Value} {news : List (Addr × Obj)}
theorem sort_led {vs : List Value} {ns : List Int} {c : Nat} {Q : Value → Shared → Prop} (F : Fr g L s.heap m) (N : News g L s.heap ((D, PySem.W.listOf (List.toArray vs) c) :: news)) (hne : ∀ q ∈ news, q.1 < D) (hI : IntsAre vs ns) (h64 : vs.length < 64)
    (k : ∀ h' vs' c', Fr g L h' m → News g L h' ((D, PySem.W.listOf (List.toArray vs') c') :: news) → IntsAre vs' (isort ns) → Q .none { s with heap := h' }) :
    wpAny (model PG w) A (call (.builtin "list.sort") [.ref D]) Q E s := by
  have z := N _ (List.Mem.head _)
  have ho : s.heap.get? D = some (seqObj "list" (List.toArray vs) c) := z.1
  refine wpAny_call_entry PyProof.Rows.slot_list_sort ⟨_, z.1, rfl⟩ PyProof.Rows.entry_list_sort (list_sort_tree ho hI h64 fun out ns' hI' hp hP => ⟨.none, rfl, ?_⟩) (PyProof.Rows.args_list_sort _)
  obtain ⟨e, he⟩ := sortedHeap_at (out := out) ho
  have hk : ∀ b o, b ≠ D → s.heap.get? b = some o → (sortedHeap s.heap D vs out).get? b = some o := fun b o hb eo => (sortedHeap_old hb (Heap.lt_size eo)).trans eo
  obtain ⟨oL, a1, a2, hL, a3⟩ := F.ns
  refine k _ out.toList e ⟨⟨oL, a1, a2, hk _ _ (Ne.symm z.2.1) hL, a3⟩, fun b o eb => hk b o (fun q => ?_) (F.keep b o eb), F.above⟩ (fun p hp => ?_) (isort_of_perm hp hP ▸ hI')
  · rw [q, z.2.2] at eb; cases eb
  · rcases List.mem_cons.mp hp with rfl | hp'
    · refine ⟨?_, z.2⟩
      rw [Array.toArray_toList]; exact he
    · exact ⟨hk _ _ (Nat.ne_of_lt (hne p hp')) (N p (.tail _ hp')).1, (N p (.tail _ hp')).2⟩

theorem sorted_dict {o : Obj} {d : Addr} {ns : List Int} {Q : Value → Shared → Prop} (hh : A.handled = none) (F : Fr g L s.heap m) (N : News g L s.heap news) (hm : (d, o) ∈ news) (lo : (d == sysModules) = false) (hd : o.IsDictOf (intKind PG w) (ns.map fun n => (n, Value.bool true))) (h64 : ns.length < 64)
    (k : ∀ D h' vs' c' tk, Fr g L h' m → News g L h' ((D, PySem.W.listOf (List.toArray vs') c') :: news) → (∀ q ∈ news, q.1 < D) → IntsAre vs' (isort ns) → vs'.length = ns.length → Q (.ref D) { s with heap := h', toks := tk }) :
    wpAny (model PG w) A (call (.builtin "sorted") [.ref d]) Q E s := by
  have hD : s.heap.DictOf (intKind PG w) d (ns.map fun n => (n, Value.bool true)) := Heap.dictOf_iff.mpr ⟨o, N.get hm, hd⟩
  obtain ⟨ep, hat⟩ := hD.dictAt
  refine kdu_sorted (kdl_dict (knd := intKind PG w) (ep := ep) lo) hh F N hat (kdl_size (by simp; omega)) fun D h' tk vs F' N' l1 hl hv => ?_
  have hI : IntsAre vs ns := intsAre_of (by simpa using hl) fun j v hj => by
    obtain ⟨n, x, hx, hk⟩ := hv j v hj
    simp at hx
    obtain ⟨a, ha, rfl, _⟩ := hx
    obtain ⟨t, rfl⟩ := Value.isInt_shape hk
    exact ⟨a, t, ha, rfl⟩
  refine sort_led F' N' l1 hI (by have := hI.length; omega) fun h'' vs' c' F'' N'' hI' => ?_
  exact k D h'' vs' c' tk F'' N'' l1 hI' (by rw [hI'.length, (isort_perm ns).length_eq])

noncomputable abbrev tupOf (vs : List Value) : Obj := { cls := .type "tuple", data := .seq (List.toArray vs) }
theorem tuple_list {vs : List Value} {c : Nat} {Q : Value → Shared → Prop} (F : Fr g L s.heap m) (N : News g L s.heap news) (hm : (l, PySem.W.listOf (List.toArray vs) c) ∈ news) (hz : vs.length ≤ 10000)
    (k : ∀ D h', Fr g L h' m → News g L h' ((D, tupOf vs) :: news) → (∀ q ∈ news, q.1 < D) → Q (.ref D) { s with heap := h' }) :
    wpAny (model PG w) A (call (.type "tuple") [.ref l]) Q E s :=
  kde_tupleOf (items := List.toArray vs) F N ⟨_, N.get hm, rfl, c, rfl⟩ (by simp; omega) (by simp) fun D h' F' N' l1 => k D h' F' N' l1
theorem len_t {vs : List Value} {n : Nat} {Q : Value → Shared → Prop} (ht : ∃ o, s.heap.get? l = some o ∧ o.cls = .type "tuple" ∧ o.data = .seq (List.toArray vs) n) (hz : vs.length ≤ 10000) (k : ∀ t tk, Q (.int (vs.length : Int) t) { s with toks := tk }) :
    wpAny (model PG w) A (call (.builtin "len") [.ref l]) Q E s := by
  obtain ⟨o, ho, hc, hd⟩ := ht
  have h1 : IsTup s.heap l (List.toArray vs) := ⟨o, ho, hc, n, hd⟩
  refine PyProof.Rows.len_tuple h1 (by simp; omega) ?_
  simp only [List.size_toArray]
  exact k _ _
theorem item_t {value slice : Expr} {vs : List Value} {n : Nat} {i : Int} {u : Tok} {Q : Value → Shared → Prop} (ht : ∃ o, s.heap.get? l = some o ∧ o.cls = .type "tuple" ∧ o.data = .seq (List.toArray vs) n) (h0 : 0 ≤ i) (hlt : i.toNat < vs.length) (hz : i < 2 ^ 62) (k : ∀ v, vs[i.toNat]? = some v → Q v s)
    (hs : subscripted slice false (.ref l) (.int i u) = operate [.ref l, .int i u] (getItem (.ref l) (.int i u)) := by with_unfolding_all rfl) :
    wpAny (model PG w) A (subscriptTail value slice (.ref l) (.int i u)) Q E s := by
  obtain ⟨o, ho, hc, hd⟩ := ht
  have h1 : IsTup s.heap l (List.toArray vs) := ⟨o, ho, hc, n, hd⟩
  have hv := List.getElem?_eq_getElem hlt
  refine item_tupleT h1 (by omega) (by omega) (j := i.toNat) ?_ hv (k _ hv) hs
  have h2 : i < (vs.length : Int) := by omega
  unfold seqIndex?
  simp only [if_neg (show ¬ i < 0 by omega)]
  rw [if_pos (by simp [h0, h2])]
end
end Mine
end
-- text D4
section
open PySem PySem.W PySem.Calls PyProof.Rows
set_option Elab.async false
set_option maxRecDepth 100000
set_option maxHeartbeats 8000000
set_option linter.unusedVariables false
namespace Mine
theorem D4_fill (w : World) : (hd.heap_39 w.params = hd.heap_39 w.params ∧ PySem.Challenge.rw_nu0265_01 = PySem.Challenge.rw_nu0265_01) := by
  k_fill
  exact ⟨rfl, rfl⟩
local macro_rules | `(tactic| walk_at "call builtin:len") => `(tactic| refine Stop.to 1 ?_)
section
variable (w : World) (mean : ExcName → Option Value) (mg mb : Str → Option Value) (a : NA) (tl : List (Addr × Obj)) (c : Circ)
theorem new_gate_ctr (hc : c.kinds.length ≤ 1000) (hc2 : c.parts.length ≤ 1000) (x : Str) (tx : Tok) (tp : Addr) (ot : Obj) (p : List Int) (hp : TupObj p ot) :
  Ctr w mean mg mb 56 2 10 [.ref a.net, .str x tx, .ref tp] (fun g h => NetPre w g h a tl c ∧ g.get? tp = some ot)
    (fun g v _ h' => (∃ t, v = .int (c.kinds.length : Int) t) ∧ ∃ ok op od, h'.get? a.ks = some ok ∧ h'.get? a.ps = some op ∧ h'.get? a.kn = some od ∧ NetObj w ((tp, ot) :: tl) ok op od { c with kinds := c.kinds ++ [x], parts := c.parts ++ [p] }) := by
  rintro dp un gd fr base g s Q E C hd hu ⟨⟨⟨hinst, ⟨x1, x2, x3, x4, x5, x6, x7, hdict⟩, n1, n2, n3, lo⟩, ⟨ok, op, od, g1, g2, g3, ⟨⟨kv, nk, rfl, hkv⟩, ⟨pv, np, rfl, hpv⟩, hkn, htup⟩⟩, f1, f2, f3, hpool⟩, htp⟩ hQ
  have X := C.X
  have T := C.T
  have B := C.B
  have hlen := hkv.length
  have hlen2 := hpv.length
  refine wpAny_call ?_
  k_dflt (refine' enter C ?k6 ?k7 ?k8 ?k9 ?kB ?_ ?c2 ?c3 ?c4 ?c5; (case k6 => k_is); (case k7 => k_is); (case k8 => omega); (case k9 => exact BindsTo.of_eq rfl); (case kB => exact locs rfl); (case c2 => exact rfl); (case c3 => exact rfl); (case c4 => exact rfl); (case c5 => decide))
  intro h₁ F K₁
  have N : News g s.heap.objs.size h₁ [(a.ks, listOf (List.toArray kv) nk), (a.ps, listOf (List.toArray pv) np), (a.kn, od)] := by
    intro p hp
    simp only [List.mem_cons, List.not_mem_nil, or_false] at hp
    rcases hp with rfl | rfl | rfl
    · exact ⟨K₁ _ _ g1, Nat.ne_of_lt (Heap.lt_size g1), f1⟩
    · exact ⟨K₁ _ _ g2, Nat.ne_of_lt (Heap.lt_size g2), f2⟩
    · exact ⟨K₁ _ _ g3, Nat.ne_of_lt (Heap.lt_size g3), f3⟩
  (try dsimp only)
  (try k_fold)
  (k_steps; (repeat' ((first | (refine Stop.out (n := 1) ?_; (first | (((with_reducible show wpAny _ _ (call (Value.builtin "len") [Value.ref _]) _ _ _); (refine' len_n (by k_asm) (by k_mem) ?a ?_; (case a => (simp; omega))); intro t9q tk9q))))); k_steps)))
  (try dsimp only)
  rename Fr _ _ _ _ => F'
  rename News _ _ _ _ => N'
  refine hQ _ _ _ (Fr.keep F') ⟨⟨_, by simp [← hlen]; rfl⟩, _, _, _, N'.get (.head _), N'.get (.tail _ (.head _)), N'.get (.tail _ (.tail _ (.head _))), ?_⟩
  refine ⟨⟨kv ++ [.str x tx], _, by rw [← List.push_toArray], hkv.append (.cons x tx .nil)⟩, ⟨pv ++ [.ref tp], _, by rw [← List.push_toArray], (hpv.mono fun p hp => .tail _ hp).append (.cons (.head _) hp .nil)⟩, hkn.mono fun p hp => .tail _ hp, fun q hq => ?_⟩
  rcases List.mem_cons.mp hq with rfl | hq
  · obtain ⟨ws, n, rfl, _⟩ := hp; rfl
  · exact htup q hq
end
end Mine
end
-- text AllOf
section
open PySem PySem.W PySem.Calls PyProof.Rows
set_option Elab.async false
set_option maxRecDepth 100000
set_option linter.unusedVariables false
namespace Mine
noncomputable def scanStep (st : Option (List Int)) (g : Int) : Option (List Int) :=
  match st with
  | none => none
  | some found => if g = -1 ∨ -g ∈ found then none else some (if g = 1 then found else if g ∈ found then found else found ++ [g])
noncomputable def scan (ns : List Int) : Option (List Int) := ns.foldl scanStep (some [])
noncomputable def allOf (c : Circ) (ns : List Int) : Circ × Int :=
  match scan ns with
  | none => (c, -1)
  | some found =>
    if (isort found).length < 2 then (c, if (isort found).length = 1 then (isort found).getD 0 0 else 1)
    else match knownAt c.known (isort found) with
      | some g => (c, g)
      | none => ({ kinds := c.kinds ++ [Str.ofString "and"], parts := c.parts ++ [isort found], known := c.known ++ [(isort found, (c.kinds.length : Int))] }, (c.kinds.length : Int))

theorem scan_none : ∀ ns : List Int, ns.foldl scanStep none = none
  | [] => rfl
  | _ :: r => scan_none r
theorem scan_split {ns : List Int} {i : Nat} {n : Int} (h : ns[i]? = some n) : scan (ns.take (i + 1)) = scanStep (scan (ns.take i)) n := by
  unfold scan
  rw [List.take_add_one, h, List.foldl_append]
  rfl
theorem scan_all_none {ns : List Int} {i : Nat} (h : scan (ns.take i) = none) : scan ns = none := by
  have e : ns = ns.take i ++ ns.drop i := (List.take_append_drop i ns).symm
  unfold scan at h ⊢
  rw [e, List.foldl_append, h]
  exact scan_none _
theorem scan_len : ∀ (ns : List Int) (f f' : List Int), ns.foldl scanStep (some f) = some f' → f'.length ≤ f.length + ns.length
  | [], f, f', h => by cases h; simp
  | n :: r, f, f', h => by
    rw [List.foldl_cons] at h
    rw [show scanStep (some f) n = if n = -1 ∨ -n ∈ f then none else some (if n = 1 then f else if n ∈ f then f else f ++ [n]) from rfl] at h
    split at h
    · rw [scan_none] at h; cases h
    · have := scan_len r _ f' h
      rw [List.length_cons]
      split at this
      · omega
      · split at this
        · omega
        · rw [List.length_append] at this; simp at this; omega

section
variable {w : World} {A : Around} {E : Value → Shared → Prop} {s : Shared} {g : Heap} {L l d : Addr} {m : Str → Option Value} {news : List (Addr × Obj)} {o : Obj} {found : List Int}
theorem valueAt_found (x : Int) : ∀ found : List Int, (valueAt (found.map fun n => (n, Value.bool true)) x).isSome = decide (x ∈ found)
  | [] => rfl
  | y :: r => by
    have ih := valueAt_found x r
    unfold valueAt at ih ⊢
    by_cases h : y = x
    · subst h; simp
    · have h' : ¬ x = y := fun e => h e.symm
      simpa [h, h'] using ih
theorem in_found {x : Int} {t : Tok} {Q : Value → Shared → Prop} (N : News g L s.heap news) (hm : (d, o) ∈ news) (lo : (d == sysModules) = false) (hd : o.IsDictOf (intKind PG w) (found.map fun n => (n, Value.bool true)))
    (k : ∀ tk, Q (.bool (decide (x ∈ found))) { s with toks := tk }) : wpAny (model PG w) A (compareOp .In (.int x t) (.ref d)) Q E s := by
  refine wpAny_in_of (knd := intKind PG w) (intKind_is _ _ _ _) lo (kda_dict N hm hd).mapOf ?_
  rw [valueAt_found]
  exact k _
theorem stored_found (x : Int) (found : List Int) : stored (found.map fun n => (n, Value.bool true)) x (.bool true) = (if x ∈ found then found else found ++ [x]).map fun n => (n, Value.bool true) := by
  unfold stored
  have e : ((found.map fun n => (n, Value.bool true)).any fun kv => decide (kv.1 = x)) = decide (x ∈ found) := by
    induction found with
    | nil => rfl
    | cons y r ih =>
      rw [List.map_cons, List.any_cons, ih]
      by_cases h : y = x
      · subst h; simp
      · have h' : ¬ x = y := fun e => h e.symm
        simp [h, h']
  rw [e]
  by_cases h : x ∈ found
  · simp only [h, decide_true, if_true]
    rw [List.map_map]
    refine List.map_congr_left fun y _ => ?_
    simp only [Function.comp]
    split <;> rfl
  · simp [h]
theorem set_found {x : Int} {t : Tok} {Q : Unit → Shared → Prop} {gf : Obj → List (Addr × Obj)} (F : Fr g L s.heap m) (N : News g L s.heap news) (U : UpdF d o news gf) (hd : o.IsDictOf (intKind PG w) (found.map fun n => (n, Value.bool true))) (hsz : found.length ≤ 1000)
    (k : ∀ h' o' tk, Fr g L h' m → News g L h' (gf o') → o'.IsDictOf (intKind PG w) ((if x ∈ found then found else found ++ [x]).map fun n => (n, Value.bool true)) → Q () { s with heap := h', toks := tk }) :
    wpAny (model PG w) A (setItem (.ref d) (.int x t) (.bool true)) Q E s := by
  refine kda_set (knd := intKind PG w) F N U hd (intKind_is _ _ _ _) (by rw [sizeLine_eq]; simp; omega) fun h' o' F' N' hd' => ?_
  rw [stored_found] at hd'
  exact k h' o' _ F' N' hd'
end
theorem net_same {w : World} {g h' : Heap} {a : NA} {tl : List (Addr × Obj)} {c : Circ} {ok op od : Obj} (r1 : h'.get? a.ks = some ok) (r2 : h'.get? a.ps = some op) (r3 : h'.get? a.kn = some od) (O : NetObj w tl ok op od c) : NetPost w g h' a tl c :=
  ⟨[], ok, op, od, r1, r2, r3, O, fun _ hp => nomatch hp⟩
theorem pool_at {g h : Heap} {L : Addr} {m : Str → Option Value} {tl : List (Addr × Obj)} (hpool : ∀ p ∈ tl, g.get? p.1 = some p.2) (F : Fr g L h m) : ∀ p ∈ tl, h.get? p.1 = some p.2 := fun p hp => F.keep _ _ (hpool p hp)
theorem pool_cons {g h : Heap} {L a : Addr} {o : Obj} {m : Str → Option Value} {tl news : List (Addr × Obj)} (hpool : ∀ p ∈ tl, g.get? p.1 = some p.2) (F : Fr g L h m) (N : News g L h news) (hm : (a, o) ∈ news) : ∀ p ∈ (a, o) :: tl, h.get? p.1 = some p.2 := fun p hp => by
  rcases List.mem_cons.mp hp with rfl | hp
  · exact N.get hm
  · exact F.keep _ _ (hpool p hp)
theorem tupObj_of {vs : List Value} {p : List Int} (h : IntsAre vs p) : TupObj p (tupOf vs) := ⟨vs, 0, rfl, h⟩
theorem knownAt_new {kn : List (List Int × Int)} {p : List Int} {g : Int} (h : knownAt kn p = none) : knownAt (kn ++ [(p, g)]) p = some g := by
  unfold knownAt at h ⊢
  rw [Option.map_eq_none_iff] at h
  rw [List.find?_append, h]
  simp
theorem new_gate_use {w : World} {mean : ExcName → Option Value} {mg mb : Str → Option Value} {A₀ : Around} {base g : Heap} {dp un : Nat} {gd : Option (List Code)} {fr : List Env} {s : Shared} {env : Env} {L : Addr} {m : Str → Option Value} {Q E : Value → Shared → Prop} {news : List (Addr × Obj)} {G : Obj → Obj → Obj → List (Addr × Obj)} {ok op od ot : Obj}
    {a : NA} {tl : List (Addr × Obj)} {c : Circ} {x : Str} {tx : Tok} {tp : Addr} {p : List Int}
    (B : Below A₀ base fr g) (F : Fr g L s.heap m) (X : (hd.heap_39 w.params).In g) (T : TT mean mg mb g) (N : News g L s.heap news) (hf : env.frame = some L) (hke : env.scope.kind = .function)
    (m1 : (a.ks, ok) ∈ news) (m2 : (a.ps, op) ∈ news) (m3 : (a.kn, od) ∈ news) (U : Upd3 a.ks a.ps a.kn ok op od news G) (O : NetObj w tl ok op od c)
    (hd' : dp + 2 < recursionLimit) (hu : un + 10 < cLine) (hG : NetG g a) (hpool : ∀ p ∈ tl, g.get? p.1 = some p.2) (hc : c.kinds.length ≤ 1000) (hc2 : c.parts.length ≤ 1000)
    (mt : (tp, ot) ∈ news) (e1 : @Ne Nat tp a.ks) (e2 : @Ne Nat tp a.ps) (e3 : @Ne Nat tp a.kn) (hp : TupObj p ot)
    (k : ∀ t h' tk' ok' op' od', Fr g L h' m → News g L h' (G ok' op' od') → NetObj w ((tp, ot) :: tl) ok' op' od' { c with kinds := c.kinds ++ [x], parts := c.parts ++ [p] } → Q (.int (c.kinds.length : Int) t) { s with heap := h', toks := tk' }) :
    wpAny (model PG w) (ar dp un gd (env :: fr)) (call (.ref 56) [.ref a.net, .str x tx, .ref tp]) Q E s := by
  refine use_net (P₀ := fun g => g.get? tp = some ot) (new_gate_ctr w mean mg mb a tl c hc hc2 x tx tp ot p hp) B F X T N hf hke m1 m2 m3 U O hd' hu (fun g₂ st kp => ⟨hG.keeps st, fun q hq => st _ _ (hpool q hq), kp _ mt e1 e2 e3⟩) ?_
  rintro v h' tk' g₂ F' st hL kp st' ⟨⟨t, rfl⟩, ok', op', od', r1, r2, r3, O'⟩ hN
  exact k t h' tk' ok' op' od' F' (hN _ _ _ r1 r2 r3) O'
end Mine
end
-- text D5
section
open PySem PySem.W PySem.Calls PyProof.Rows
set_option Elab.async false
set_option maxRecDepth 100000
set_option maxHeartbeats 8000000
set_option linter.unusedVariables false
namespace Mine
theorem D5_fill (w : World) : (hd.heap_39 w.params = hd.heap_39 w.params ∧ PySem.Challenge.rw_nu0265_01 = PySem.Challenge.rw_nu0265_01) := by
  k_fill
  exact ⟨rfl, rfl⟩
local macro_rules | `(tactic| walk_at "pyIter ref") => `(tactic| refine Stop.mk ?_)
local macro_rules | `(tactic| walk_at "exec For Name Name cons nil") => `(tactic| refine Stop.to 1 ?_)
local macro_rules | `(tactic| walk_at "exec For Name Call cons nil") => `(tactic| refine Stop.to 2 ?_)
local macro_rules | `(tactic| walk_at "compareOp In int ref") => `(tactic| refine Stop.to 3 ?_)
local macro_rules | `(tactic| walk_at "setItem ref int") => `(tactic| refine Stop.to 4 ?_)
local macro_rules | `(tactic| walk_at "call builtin:sorted") => `(tactic| refine Stop.to 5 ?_)
local macro_rules | `(tactic| walk_at "call type:tuple") => `(tactic| refine Stop.to 6 ?_)
local macro_rules | `(tactic| walk_at "call builtin:len") => `(tactic| refine Stop.to 7 ?_)
local macro_rules | `(tactic| walk_at "subscriptTail") => `(tactic| refine Stop.to 8 ?_)
local macro_rules | `(tactic| walk_at "compareOp NotIn ref ref") => `(tactic| refine Stop.to 9 ?_)
local macro_rules | `(tactic| walk_at "call ref") => `(tactic| refine Stop.to 10 ?_)
local macro_rules | `(tactic| walk_at "setItem ref ref") => `(tactic| (refine Stop.mk ?_))
section
variable (w : World) (mean : ExcName → Option Value) (mg mb : Str → Option Value) (a : NA) (tl : List (Addr × Obj)) (c : Circ)
theorem all_of_ctr (hc : c.kinds.length ≤ 900) (hc2 : c.parts.length ≤ 900) (hc3 : c.known.length ≤ 900) (ga : Addr) (vs : List Value) (ns : List Int) (hi : IntsAre vs ns) (hn : ns.length ≤ 50) :
  Ctr w mean mg mb 70 4 30 [.ref a.net, .ref ga] (fun g h => NetPre w g h a tl c ∧ SeqIn g ga vs)
    (fun g v _ h' => (∃ t, v = .int (allOf c ns).2 t) ∧ NetPost w g h' a tl (allOf c ns).1) := by
  rintro dp un gd fr base g s Q E C hd hu ⟨⟨hG, ⟨ok, op, od, g1, g2, g3, ⟨⟨kv, nk, rfl, hkv⟩, ⟨pv, np, rfl, hpv⟩, hkn, htup⟩⟩, f1, f2, f3, hpool⟩, hga⟩ hQ
  obtain ⟨hinst, ⟨x1, x2, x3, x4, x5, x6, x7, hdict⟩, n1, n2, n3, lo⟩ := id hG
  have X := C.X
  have T := C.T
  have B := C.B
  have hlen := hkv.length
  have hlen2 := hpv.length
  refine wpAny_call ?_
  k_dflt (refine' enter C ?k6 ?k7 ?k8 ?k9 ?kB ?_ ?c2 ?c3 ?c4 ?c5; (case k6 => k_is); (case k7 => k_is); (case k8 => omega); (case k9 => exact BindsTo.of_eq rfl); (case kB => exact locs rfl); (case c2 => exact rfl); (case c3 => exact rfl); (case c4 => exact rfl); (case c5 => decide))
  intro h₁ F K₁
  have N : News g s.heap.objs.size h₁ [(a.ks, listOf (List.toArray kv) nk), (a.ps, listOf (List.toArray pv) np), (a.kn, od)] := by
    intro p hp
    simp only [List.mem_cons, List.not_mem_nil, or_false] at hp
    rcases hp with rfl | rfl | rfl
    · exact ⟨K₁ _ _ g1, Nat.ne_of_lt (Heap.lt_size g1), f1⟩
    · exact ⟨K₁ _ _ g2, Nat.ne_of_lt (Heap.lt_size g2), f2⟩
    · exact ⟨K₁ _ _ g3, Nat.ne_of_lt (Heap.lt_size g3), f3⟩
  (try dsimp only)
  (try k_fold)
  (k_steps; (repeat' ((first | (refine Stop.out (n := 1) ?_; (first | (((rename Fr _ _ _ _ => lF'q); (with_unfolding_all refine' For_invVF lF'q ?k1 ?k2 ?_; (case k1 => exact rfl); (case k2 => exact rfl)))))) | (refine Stop.out (n := 2) ?_; (first | (((rename Fr _ _ _ _ => lF'q); (with_unfolding_all refine' For_invVF lF'q ?k1 ?k2 ?_; (case k1 => exact rfl); (case k2 => exact rfl)))))) | (refine Stop.out (n := 3) ?_; (first | ((k_dflt (refine' in_found ?y9N ?y9m ?y9l ?y9d ?_; (case y9N => k_asm); (case y9m => k_mem); (case y9l => assumption); (case y9d => assumption)); intro tk9q)))) | (refine Stop.out (n := 4) ?_; (first | (((with_reducible show wpAny _ _ (setItem (Value.ref _) (Value.int _ _) (Value.bool true)) _ _ _); k_dflt (refine' set_found ?y9F ?y9N ?y9U ?y9d ?y9z ?_; (case y9F => k_asm); (case y9N => k_asm); (case y9U => (first | ((repeat' (first | exact Upd3.nil | refine' Upd3.one ?_ | refine' Upd3.two ?_ | refine' Upd3.three ?_ | (refine' Upd3.skip ?y8a ?y8b ?y8c ?_; (case y8a => ((try dsimp only); omega)); (case y8b => ((try dsimp only); omega)); (case y8c => ((try dsimp only); omega))))); done) | k_updF)); (case y9d => assumption); (case y9z => omega)); intro h9q o9q tk9q F9q N9q hd9q; (try dsimp only at N9q))))) | (refine Stop.out (n := 5) ?_; (first | ((k_dflt (refine' sorted_dict ?y9h ?y9F ?y9N ?y9m ?y9l ?y9d ?y9z ?_; (case y9h => exact rfl); (case y9F => k_asm); (case y9N => k_asm); (case y9m => k_mem); (case y9l => assumption); (case y9d => assumption); (case y9z => omega)); intro D9q h9q vs9q c9q tk9q F9q N9q l9q hi9q hl9q; (try k_lt l9q))))) | (refine Stop.out (n := 6) ?_; (first | ((k_dflt (refine' tuple_list ?y9F ?y9N ?y9m ?y9z ?_; (case y9F => k_asm); (case y9N => k_asm); (case y9m => k_mem); (case y9z => omega)); intro D9q h9q F9q N9q l9q; (try k_lt l9q))))) | (refine Stop.out (n := 7) ?_; (first | ((k_dflt (refine' len_t (n := 0) ⟨_, News.get (by k_asm) (by k_mem), rfl, rfl⟩ ?y9a ?_; (case y9a => omega)); intro t9q tk9q)))) | (refine Stop.out (n := 8) ?_; (first | (((with_reducible show wpAny _ _ (subscriptTail _ _ (Value.ref _) (Value.int _ _)) _ _ _); k_dflt (refine' item_t (n := 0) ⟨_, News.get (by k_asm) (by k_mem), rfl, rfl⟩ ?y9a ?y9b ?y9c ?_; (case y9a => omega); (case y9b => omega); (case y9c => omega)); intro v9q hv9q)))) | (refine Stop.out (n := 9) ?_; (first | ((k_dflt (refine' known_notin ?y9u ?y9N ?y9m ?y9l ?y9K ?y9t ?y9a ?y9p ?_; (case y9N => k_asm); (case y9m => k_mem); (case y9l => assumption); (case y9K => assumption); (case y9u => (dsimp only [Around.deeper, ar]; (refine Nat.lt_of_le_of_lt ?_ (by assumption)); simp)); (case y9t => exact pool_at (by assumption) (by k_asm)); (case y9a => exact News.get (by k_asm) (by k_mem)); (case y9p => exact tupObj_of (by assumption))); intro tk9q)))) | (refine Stop.out (n := 10) ?_; (first | (((with_reducible show wpAny _ _ (call (Value.ref 56) _) _ _ _); k_dflt (refine' new_gate_use ?y9B ?y9F ?y9X ?y9T ?y9N ?y9f ?y9k ?y9m1 ?y9m2 ?y9m3 ?y9U ?y9O ?y9d ?y9u ?y9G ?y9po ?y9c1 ?y9c2 ?y9mt ?y9e1 ?y9e2 ?y9e3 ?y9p ?_; (case y9B => k_asm); (case y9F => k_asm); (case y9X => k_asm); (case y9T => k_asm); (case y9N => k_asm); (case y9f => exact rfl); (case y9k => exact rfl); (case y9G => assumption); (case y9m1 => k_mem); (case y9m2 => k_mem); (case y9m3 => k_mem); (case y9U => (first | ((repeat' (first | exact Upd3.nil | refine' Upd3.one ?_ | refine' Upd3.two ?_ | refine' Upd3.three ?_ | (refine' Upd3.skip ?y8a ?y8b ?y8c ?_; (case y8a => ((try dsimp only); omega)); (case y8b => ((try dsimp only); omega)); (case y8c => ((try dsimp only); omega))))); done) | k_updF)); (case y9O => assumption); (case y9d => (dsimp only [Around.deeper, ar]; (refine Nat.lt_of_le_of_lt ?_ (by assumption)); simp)); (case y9u => (dsimp only [Around.deeper, ar]; (refine Nat.lt_of_le_of_lt ?_ (by assumption)); simp)); (case y9po => assumption); (case y9c1 => omega); (case y9c2 => omega); (case y9mt => k_mem); (case y9e1 => omega); (case y9e2 => omega); (case y9e3 => omega); (case y9p => exact tupObj_of (by assumption))); intro t9q h9q tk9q ok9q op9q od9q F9q N9q O9q; (try dsimp only at N9q); (have K9 := NetObj.known O9q)))))); k_steps)))
  refine Stop.out ?_
  rename Fr _ _ _ _ => F2
  rename_i d hA o lo2 _ _ hdI _ l1 h2 N2
  refine for_seq (fun i m nx => ∃ o' found, nx = [(d, o'), (a.ks, listOf (List.toArray kv) nk), (a.ps, listOf (List.toArray pv) np), (a.kn, od)] ∧ o'.IsDictOf (intKind PG w) (found.map fun n => (n, Value.bool true)) ∧ scan (ns.take i) = some found ∧ m "found" = some (.ref d) ∧ m "self" = some (.ref a.net)) rfl hga F2 N2 ?_ ?_ ?_
  · exact ⟨o, [], rfl, hdI, rfl, rfl, rfl⟩
  · rintro i v m₁ nx h tk own hin hv hoff ⟨o', found, rfl, hdo, hsc, e1, e2⟩ F₁ N₁
    obtain ⟨x, t, rfl, hx⟩ := hi.at i v hv
    have F₁ := see (see F₁ "found" (by repeat (first | exact e1 | (rw [if_neg (by decide)])))) "self" (by repeat (first | exact e2 | (rw [if_neg (by decide)])))
    have hfl : found.length ≤ 50 := by
      have := scan_len _ [] _ hsc
      rw [List.length_take] at this
      simp at this
      omega
    have hstep := scan_split hx
    rw [hsc] at hstep
    simp only [List.cons_append, List.nil_append] at N₁
    clear N2 F2 g1 g2 g3 hdI
    (try k_fold)
    (k_steps; (repeat' ((first | (refine Stop.out (n := 1) ?_; (first | (((rename Fr _ _ _ _ => lF'q); (with_unfolding_all refine' For_invVF lF'q ?k1 ?k2 ?_; (case k1 => exact rfl); (case k2 => exact rfl)))))) | (refine Stop.out (n := 2) ?_; (first | (((rename Fr _ _ _ _ => lF'q); (with_unfolding_all refine' For_invVF lF'q ?k1 ?k2 ?_; (case k1 => exact rfl); (case k2 => exact rfl)))))) | (refine Stop.out (n := 3) ?_; (first | ((k_dflt (refine' in_found ?y9N ?y9m ?y9l ?y9d ?_; (case y9N => k_asm); (case y9m => k_mem); (case y9l => assumption); (case y9d => assumption)); intro tk9q)))) | (refine Stop.out (n := 4) ?_; (first | (((with_reducible show wpAny _ _ (setItem (Value.ref _) (Value.int _ _) (Value.bool true)) _ _ _); k_dflt (refine' set_found ?y9F ?y9N ?y9U ?y9d ?y9z ?_; (case y9F => k_asm); (case y9N => k_asm); (case y9U => (first | ((repeat' (first | exact Upd3.nil | refine' Upd3.one ?_ | refine' Upd3.two ?_ | refine' Upd3.three ?_ | (refine' Upd3.skip ?y8a ?y8b ?y8c ?_; (case y8a => ((try dsimp only); omega)); (case y8b => ((try dsimp only); omega)); (case y8c => ((try dsimp only); omega))))); done) | k_updF)); (case y9d => assumption); (case y9z => omega)); intro h9q o9q tk9q F9q N9q hd9q; (try dsimp only at N9q))))) | (refine Stop.out (n := 5) ?_; (first | ((k_dflt (refine' sorted_dict ?y9h ?y9F ?y9N ?y9m ?y9l ?y9d ?y9z ?_; (case y9h => exact rfl); (case y9F => k_asm); (case y9N => k_asm); (case y9m => k_mem); (case y9l => assumption); (case y9d => assumption); (case y9z => omega)); intro D9q h9q vs9q c9q tk9q F9q N9q l9q hi9q hl9q; (try k_lt l9q))))) | (refine Stop.out (n := 6) ?_; (first | ((k_dflt (refine' tuple_list ?y9F ?y9N ?y9m ?y9z ?_; (case y9F => k_asm); (case y9N => k_asm); (case y9m => k_mem); (case y9z => omega)); intro D9q h9q F9q N9q l9q; (try k_lt l9q))))) | (refine Stop.out (n := 7) ?_; (first | ((k_dflt (refine' len_t (n := 0) ⟨_, News.get (by k_asm) (by k_mem), rfl, rfl⟩ ?y9a ?_; (case y9a => omega)); intro t9q tk9q)))) | (refine Stop.out (n := 8) ?_; (first | (((with_reducible show wpAny _ _ (subscriptTail _ _ (Value.ref _) (Value.int _ _)) _ _ _); k_dflt (refine' item_t (n := 0) ⟨_, News.get (by k_asm) (by k_mem), rfl, rfl⟩ ?y9a ?y9b ?y9c ?_; (case y9a => omega); (case y9b => omega); (case y9c => omega)); intro v9q hv9q)))) | (refine Stop.out (n := 9) ?_; (first | ((k_dflt (refine' known_notin ?y9u ?y9N ?y9m ?y9l ?y9K ?y9t ?y9a ?y9p ?_; (case y9N => k_asm); (case y9m => k_mem); (case y9l => assumption); (case y9K => assumption); (case y9u => (dsimp only [Around.deeper, ar]; (refine Nat.lt_of_le_of_lt ?_ (by assumption)); simp)); (case y9t => exact pool_at (by assumption) (by k_asm)); (case y9a => exact News.get (by k_asm) (by k_mem)); (case y9p => exact tupObj_of (by assumption))); intro tk9q)))) | (refine Stop.out (n := 10) ?_; (first | (((with_reducible show wpAny _ _ (call (Value.ref 56) _) _ _ _); k_dflt (refine' new_gate_use ?y9B ?y9F ?y9X ?y9T ?y9N ?y9f ?y9k ?y9m1 ?y9m2 ?y9m3 ?y9U ?y9O ?y9d ?y9u ?y9G ?y9po ?y9c1 ?y9c2 ?y9mt ?y9e1 ?y9e2 ?y9e3 ?y9p ?_; (case y9B => k_asm); (case y9F => k_asm); (case y9X => k_asm); (case y9T => k_asm); (case y9N => k_asm); (case y9f => exact rfl); (case y9k => exact rfl); (case y9G => assumption); (case y9m1 => k_mem); (case y9m2 => k_mem); (case y9m3 => k_mem); (case y9U => (first | ((repeat' (first | exact Upd3.nil | refine' Upd3.one ?_ | refine' Upd3.two ?_ | refine' Upd3.three ?_ | (refine' Upd3.skip ?y8a ?y8b ?y8c ?_; (case y8a => ((try dsimp only); omega)); (case y8b => ((try dsimp only); omega)); (case y8c => ((try dsimp only); omega))))); done) | k_updF)); (case y9O => assumption); (case y9d => (dsimp only [Around.deeper, ar]; (refine Nat.lt_of_le_of_lt ?_ (by assumption)); simp)); (case y9u => (dsimp only [Around.deeper, ar]; (refine Nat.lt_of_le_of_lt ?_ (by assumption)); simp)); (case y9po => assumption); (case y9c1 => omega); (case y9c2 => omega); (case y9mt => k_mem); (case y9e1 => omega); (case y9e2 => omega); (case y9e3 => omega); (case y9p => exact tupObj_of (by assumption))); intro t9q h9q tk9q ok9q op9q od9q F9q N9q O9q; (try dsimp only at N9q); (have K9 := NetObj.known O9q)))))); k_steps)))
    · rename_i hx1
      refine hQ _ _ _ F₁.keep ⟨?_, ?_⟩
      · have hz : scan ns = none := scan_all_none (i := i + 1) (by rw [hstep]; simp [scanStep, hx1])
        exact ⟨_, by unfold allOf; rw [hz]⟩
      · have hz : scan ns = none := scan_all_none (i := i + 1) (by rw [hstep]; simp [scanStep, hx1])
        have e : (allOf c ns).1 = c := by unfold allOf; rw [hz]
        rw [e]
        exact net_same (N₁.get (.tail _ (.head _))) (N₁.get (.tail _ (.tail _ (.head _)))) (N₁.get (.tail _ (.tail _ (.tail _ (.head _))))) ⟨⟨kv, nk, rfl, hkv⟩, ⟨pv, np, rfl, hpv⟩, hkn, htup⟩
    · rename_i hx1
      have hz : scan ns = none := scan_all_none (i := i + 1) (by rw [hstep]; simp [scanStep, hx1])
      refine hQ _ _ _ F₁.keep ⟨⟨_, by unfold allOf; rw [hz]⟩, ?_⟩
      have e : (allOf c ns).1 = c := by unfold allOf; rw [hz]
      rw [e]
      exact net_same (N₁.get (.tail _ (.head _))) (N₁.get (.tail _ (.tail _ (.head _)))) (N₁.get (.tail _ (.tail _ (.tail _ (.head _))))) ⟨⟨kv, nk, rfl, hkv⟩, ⟨pv, np, rfl, hpv⟩, hkn, htup⟩
    · rename_i hx0 _ hx1 hx2
      refine inv_end (nx := [(d, o9q), (a.ks, listOf (List.toArray kv) nk), (a.ps, listOf (List.toArray pv) np), (a.kn, od)]) F9q N9q hoff ⟨o9q, _, rfl, hd9q, ?_, ?_, ?_⟩
      · rw [hstep]; simp [scanStep, hx0, hx1, hx2]
      all_goals with_unfolding_all rfl
    · rename_i hx0 _ hx1 hx2
      refine inv_end (nx := [(d, o'), (a.ks, listOf (List.toArray kv) nk), (a.ps, listOf (List.toArray pv) np), (a.kn, od)]) F₁ N₁ hoff ⟨o', found, rfl, hdo, ?_, ?_, ?_⟩
      · rw [hstep]; subst hx2; simp [scanStep, hx1]
      all_goals with_unfolding_all rfl
  · rintro m₁ nx h tk ⟨o', found, rfl, hdo, hsc, e1, e2⟩ F₁ N₁
    have hvl := hi.length
    rw [hvl, List.take_length] at hsc
    have F₁ := see (see F₁ "found" e1) "self" (by repeat (first | exact e2 | (rw [if_neg (by decide)])))
    have hfl : found.length ≤ 50 := by
      have := scan_len _ [] _ hsc
      simp at this
      omega
    clear N2 F2 g1 g2 g3 hdI
    have hO : NetObj w tl (listOf (List.toArray kv) nk) (listOf (List.toArray pv) np) od c := ⟨⟨kv, nk, rfl, hkv⟩, ⟨pv, np, rfl, hpv⟩, hkn, htup⟩
    (try dsimp only)
    (k_steps; (repeat' ((first | (refine Stop.out (n := 1) ?_; (first | (((rename Fr _ _ _ _ => lF'q); (with_unfolding_all refine' For_invVF lF'q ?k1 ?k2 ?_; (case k1 => exact rfl); (case k2 => exact rfl)))))) | (refine Stop.out (n := 2) ?_; (first | (((rename Fr _ _ _ _ => lF'q); (with_unfolding_all refine' For_invVF lF'q ?k1 ?k2 ?_; (case k1 => exact rfl); (case k2 => exact rfl)))))) | (refine Stop.out (n := 3) ?_; (first | ((k_dflt (refine' in_found ?y9N ?y9m ?y9l ?y9d ?_; (case y9N => k_asm); (case y9m => k_mem); (case y9l => assumption); (case y9d => assumption)); intro tk9q)))) | (refine Stop.out (n := 4) ?_; (first | (((with_reducible show wpAny _ _ (setItem (Value.ref _) (Value.int _ _) (Value.bool true)) _ _ _); k_dflt (refine' set_found ?y9F ?y9N ?y9U ?y9d ?y9z ?_; (case y9F => k_asm); (case y9N => k_asm); (case y9U => (first | ((repeat' (first | exact Upd3.nil | refine' Upd3.one ?_ | refine' Upd3.two ?_ | refine' Upd3.three ?_ | (refine' Upd3.skip ?y8a ?y8b ?y8c ?_; (case y8a => ((try dsimp only); omega)); (case y8b => ((try dsimp only); omega)); (case y8c => ((try dsimp only); omega))))); done) | k_updF)); (case y9d => assumption); (case y9z => omega)); intro h9q o9q tk9q F9q N9q hd9q; (try dsimp only at N9q))))) | (refine Stop.out (n := 5) ?_; (first | ((k_dflt (refine' sorted_dict ?y9h ?y9F ?y9N ?y9m ?y9l ?y9d ?y9z ?_; (case y9h => exact rfl); (case y9F => k_asm); (case y9N => k_asm); (case y9m => k_mem); (case y9l => assumption); (case y9d => assumption); (case y9z => omega)); intro D9q h9q vs9q c9q tk9q F9q N9q l9q hi9q hl9q; (try k_lt l9q))))) | (refine Stop.out (n := 6) ?_; (first | ((k_dflt (refine' tuple_list ?y9F ?y9N ?y9m ?y9z ?_; (case y9F => k_asm); (case y9N => k_asm); (case y9m => k_mem); (case y9z => omega)); intro D9q h9q F9q N9q l9q; (try k_lt l9q))))) | (refine Stop.out (n := 7) ?_; (first | ((k_dflt (refine' len_t (n := 0) ⟨_, News.get (by k_asm) (by k_mem), rfl, rfl⟩ ?y9a ?_; (case y9a => omega)); intro t9q tk9q)))) | (refine Stop.out (n := 8) ?_; (first | (((with_reducible show wpAny _ _ (subscriptTail _ _ (Value.ref _) (Value.int _ _)) _ _ _); k_dflt (refine' item_t (n := 0) ⟨_, News.get (by k_asm) (by k_mem), rfl, rfl⟩ ?y9a ?y9b ?y9c ?_; (case y9a => omega); (case y9b => omega); (case y9c => omega)); intro v9q hv9q)))) | (refine Stop.out (n := 9) ?_; (first | ((k_dflt (refine' known_notin ?y9u ?y9N ?y9m ?y9l ?y9K ?y9t ?y9a ?y9p ?_; (case y9N => k_asm); (case y9m => k_mem); (case y9l => assumption); (case y9K => assumption); (case y9u => (dsimp only [Around.deeper, ar]; (refine Nat.lt_of_le_of_lt ?_ (by assumption)); simp)); (case y9t => exact pool_at (by assumption) (by k_asm)); (case y9a => exact News.get (by k_asm) (by k_mem)); (case y9p => exact tupObj_of (by assumption))); intro tk9q)))) | (refine Stop.out (n := 10) ?_; (first | (((with_reducible show wpAny _ _ (call (Value.ref 56) _) _ _ _); k_dflt (refine' new_gate_use ?y9B ?y9F ?y9X ?y9T ?y9N ?y9f ?y9k ?y9m1 ?y9m2 ?y9m3 ?y9U ?y9O ?y9d ?y9u ?y9G ?y9po ?y9c1 ?y9c2 ?y9mt ?y9e1 ?y9e2 ?y9e3 ?y9p ?_; (case y9B => k_asm); (case y9F => k_asm); (case y9X => k_asm); (case y9T => k_asm); (case y9N => k_asm); (case y9f => exact rfl); (case y9k => exact rfl); (case y9G => assumption); (case y9m1 => k_mem); (case y9m2 => k_mem); (case y9m3 => k_mem); (case y9U => (first | ((repeat' (first | exact Upd3.nil | refine' Upd3.one ?_ | refine' Upd3.two ?_ | refine' Upd3.three ?_ | (refine' Upd3.skip ?y8a ?y8b ?y8c ?_; (case y8a => ((try dsimp only); omega)); (case y8b => ((try dsimp only); omega)); (case y8c => ((try dsimp only); omega))))); done) | k_updF)); (case y9O => assumption); (case y9d => (dsimp only [Around.deeper, ar]; (refine Nat.lt_of_le_of_lt ?_ (by assumption)); simp)); (case y9u => (dsimp only [Around.deeper, ar]; (refine Nat.lt_of_le_of_lt ?_ (by assumption)); simp)); (case y9po => assumption); (case y9c1 => omega); (case y9c2 => omega); (case y9mt => k_mem); (case y9e1 => omega); (case y9e2 => omega); (case y9e3 => omega); (case y9p => exact tupObj_of (by assumption))); intro t9q h9q tk9q ok9q op9q od9q F9q N9q O9q; (try dsimp only at N9q); (have K9 := NetObj.known O9q)))))); k_steps)))
    · rename IntsAre _ (isort found) => hi9
      (try dsimp only)
      obtain ⟨x, t, rfl, hx⟩ := hi9.at _ _ hv9q
      have e1 : (isort found).length = 1 := by have := hi9.length; omega
      have e2 : allOf c ns = (c, (isort found).getD 0 0) := by unfold allOf; rw [hsc]; dsimp only; rw [if_pos (by omega), if_pos e1]
      have hx' : (isort found).getD 0 0 = x := by
        have hx2 : (isort found)[0]? = some x := hx
        rw [List.getD_eq_getElem?_getD, hx2]; rfl
      rw [e2, hx'] at hQ
      exact hQ _ _ _ (Fr.keep (by assumption)) ⟨⟨_, rfl⟩, net_same (News.get (by assumption) (by k_mem)) (News.get (by assumption) (by k_mem)) (News.get (by assumption) (by k_mem)) hO⟩
    · rename IntsAre _ (isort found) => hi9
      (try dsimp only)
      have e1 : ¬ (isort found).length = 1 := by have := hi9.length; omega
      have e2 : allOf c ns = (c, 1) := by unfold allOf; rw [hsc]; dsimp only; rw [if_pos (by have := hi9.length; omega), if_neg e1]
      rw [e2] at hQ
      exact hQ _ _ _ (Fr.keep (by assumption)) ⟨⟨_, rfl⟩, net_same (News.get (by assumption) (by k_mem)) (News.get (by assumption) (by k_mem)) (News.get (by assumption) (by k_mem)) hO⟩
    · rename_i hk
      rename IntsAre _ (isort found) => hi9
      obtain ⟨gg, hgg⟩ := Option.isSome_iff_exists.mp hk
      have e2 : allOf c ns = (c, gg) := by unfold allOf; rw [hsc]; dsimp only; rw [if_neg (by have := hi9.length; omega), hgg]
      rw [e2] at hQ
      refine Stop.out ?_
      (try dsimp only)
      k_dflt (refine' known_item ?y9u ?y9N ?y9m ?y9K ?y9t ?y9a ?y9p hgg ?_; (case y9N => k_asm); (case y9m => k_mem); (case y9K => assumption); (case y9u => (dsimp only [Around.deeper, ar]; (refine Nat.lt_of_le_of_lt ?_ (by assumption)); simp)); (case y9t => exact pool_at (by assumption) (by k_asm)); (case y9a => exact News.get (by k_asm) (by k_mem)); (case y9p => exact tupObj_of (by assumption)))
      intro t9 tk9
      (try dsimp only)
      exact hQ _ _ _ (Fr.keep (by assumption)) ⟨⟨_, rfl⟩, net_same (News.get (by assumption) (by k_mem)) (News.get (by assumption) (by k_mem)) (News.get (by assumption) (by k_mem)) hO⟩
    · rename IntsAre _ (isort found) => hi9
      rename Option.isSome _ = false => hk
      have hk : knownAt c.known (isort found) = none := by simpa using hk
      refine Stop.out ?_
      (try dsimp only)
      k_dflt (refine' known_set ?y9u ?y9F ?y9N ?y9U ?y9K ?y9t ?y9a ?y9p hk ?y9z ?_; (case y9F => k_asm); (case y9N => k_asm); (case y9U => k_updF); (case y9K => assumption); (case y9u => (dsimp only [Around.deeper, ar]; (refine Nat.lt_of_le_of_lt ?_ (by assumption)); simp)); (case y9t => exact pool_cons (by assumption) (by k_asm) (by k_asm) (by k_mem)); (case y9a => exact .head _); (case y9p => exact tupObj_of (by assumption)); (case y9z => (rw [sizeLine_eq]; (try dsimp only); omega)))
      intro h9 o9 tk9 F9 N9 K9
      (try dsimp only at N9)
      (try dsimp only at K9)
      (try dsimp only)
      (try k_fold)
      (k_steps; (repeat' ((first | (refine Stop.out (n := 1) ?_; (first | (((rename Fr _ _ _ _ => lF'q); (with_unfolding_all refine' For_invVF lF'q ?k1 ?k2 ?_; (case k1 => exact rfl); (case k2 => exact rfl)))))) | (refine Stop.out (n := 2) ?_; (first | (((rename Fr _ _ _ _ => lF'q); (with_unfolding_all refine' For_invVF lF'q ?k1 ?k2 ?_; (case k1 => exact rfl); (case k2 => exact rfl)))))) | (refine Stop.out (n := 3) ?_; (first | ((k_dflt (refine' in_found ?y9N ?y9m ?y9l ?y9d ?_; (case y9N => k_asm); (case y9m => k_mem); (case y9l => assumption); (case y9d => assumption)); intro tk9q)))) | (refine Stop.out (n := 4) ?_; (first | (((with_reducible show wpAny _ _ (setItem (Value.ref _) (Value.int _ _) (Value.bool true)) _ _ _); k_dflt (refine' set_found ?y9F ?y9N ?y9U ?y9d ?y9z ?_; (case y9F => k_asm); (case y9N => k_asm); (case y9U => (first | ((repeat' (first | exact Upd3.nil | refine' Upd3.one ?_ | refine' Upd3.two ?_ | refine' Upd3.three ?_ | (refine' Upd3.skip ?y8a ?y8b ?y8c ?_; (case y8a => ((try dsimp only); omega)); (case y8b => ((try dsimp only); omega)); (case y8c => ((try dsimp only); omega))))); done) | k_updF)); (case y9d => assumption); (case y9z => omega)); intro h9q o9q tk9q F9q N9q hd9q; (try dsimp only at N9q))))) | (refine Stop.out (n := 5) ?_; (first | ((k_dflt (refine' sorted_dict ?y9h ?y9F ?y9N ?y9m ?y9l ?y9d ?y9z ?_; (case y9h => exact rfl); (case y9F => k_asm); (case y9N => k_asm); (case y9m => k_mem); (case y9l => assumption); (case y9d => assumption); (case y9z => omega)); intro D9q h9q vs9q c9q tk9q F9q N9q l9q hi9q hl9q; (try k_lt l9q))))) | (refine Stop.out (n := 6) ?_; (first | ((k_dflt (refine' tuple_list ?y9F ?y9N ?y9m ?y9z ?_; (case y9F => k_asm); (case y9N => k_asm); (case y9m => k_mem); (case y9z => omega)); intro D9q h9q F9q N9q l9q; (try k_lt l9q))))) | (refine Stop.out (n := 7) ?_; (first | ((k_dflt (refine' len_t (n := 0) ⟨_, News.get (by k_asm) (by k_mem), rfl, rfl⟩ ?y9a ?_; (case y9a => omega)); intro t9q tk9q)))) | (refine Stop.out (n := 8) ?_; (first | (((with_reducible show wpAny _ _ (subscriptTail _ _ (Value.ref _) (Value.int _ _)) _ _ _); k_dflt (refine' item_t (n := 0) ⟨_, News.get (by k_asm) (by k_mem), rfl, rfl⟩ ?y9a ?y9b ?y9c ?_; (case y9a => omega); (case y9b => omega); (case y9c => omega)); intro v9q hv9q)))) | (refine Stop.out (n := 9) ?_; (first | ((k_dflt (refine' known_notin ?y9u ?y9N ?y9m ?y9l ?y9K ?y9t ?y9a ?y9p ?_; (case y9N => k_asm); (case y9m => k_mem); (case y9l => assumption); (case y9K => assumption); (case y9u => (dsimp only [Around.deeper, ar]; (refine Nat.lt_of_le_of_lt ?_ (by assumption)); simp)); (case y9t => exact pool_at (by assumption) (by k_asm)); (case y9a => exact News.get (by k_asm) (by k_mem)); (case y9p => exact tupObj_of (by assumption))); intro tk9q)))) | (refine Stop.out (n := 10) ?_; (first | (((with_reducible show wpAny _ _ (call (Value.ref 56) _) _ _ _); k_dflt (refine' new_gate_use ?y9B ?y9F ?y9X ?y9T ?y9N ?y9f ?y9k ?y9m1 ?y9m2 ?y9m3 ?y9U ?y9O ?y9d ?y9u ?y9G ?y9po ?y9c1 ?y9c2 ?y9mt ?y9e1 ?y9e2 ?y9e3 ?y9p ?_; (case y9B => k_asm); (case y9F => k_asm); (case y9X => k_asm); (case y9T => k_asm); (case y9N => k_asm); (case y9f => exact rfl); (case y9k => exact rfl); (case y9G => assumption); (case y9m1 => k_mem); (case y9m2 => k_mem); (case y9m3 => k_mem); (case y9U => (first | ((repeat' (first | exact Upd3.nil | refine' Upd3.one ?_ | refine' Upd3.two ?_ | refine' Upd3.three ?_ | (refine' Upd3.skip ?y8a ?y8b ?y8c ?_; (case y8a => ((try dsimp only); omega)); (case y8b => ((try dsimp only); omega)); (case y8c => ((try dsimp only); omega))))); done) | k_updF)); (case y9O => assumption); (case y9d => (dsimp only [Around.deeper, ar]; (refine Nat.lt_of_le_of_lt ?_ (by assumption)); simp)); (case y9u => (dsimp only [Around.deeper, ar]; (refine Nat.lt_of_le_of_lt ?_ (by assumption)); simp)); (case y9po => assumption); (case y9c1 => omega); (case y9c2 => omega); (case y9mt => k_mem); (case y9e1 => omega); (case y9e2 => omega); (case y9e3 => omega); (case y9p => exact tupObj_of (by assumption))); intro t9q h9q tk9q ok9q op9q od9q F9q N9q O9q; (try dsimp only at N9q); (have K9 := NetObj.known O9q)))))); k_steps)))
      refine Stop.out ?_
      (try dsimp only)
      k_dflt (refine' known_item ?y9u ?y9N ?y9m K9 ?y9t ?y9a ?y9p (knownAt_new hk) ?_; (case y9N => k_asm); (case y9m => k_mem); (case y9u => (dsimp only [Around.deeper, ar]; (refine Nat.lt_of_le_of_lt ?_ (by assumption)); simp)); (case y9t => exact pool_cons (by assumption) (by k_asm) (by k_asm) (by k_mem)); (case y9a => exact News.get (by k_asm) (by k_mem)); (case y9p => exact tupObj_of (by assumption)))
      intro t8 tk8
      (try dsimp only)
      have e2 : allOf c ns = ({ kinds := c.kinds ++ [Str.ofString "and"], parts := c.parts ++ [isort found], known := c.known ++ [(isort found, (c.kinds.length : Int))] }, (c.kinds.length : Int)) := by unfold allOf; rw [hsc]; dsimp only; rw [if_neg (by have := hi9.length; omega), hk]
      rw [e2] at hQ
      rename NetObj w (_ :: tl) _ _ _ _ => O9
      refine hQ _ _ _ (Fr.keep F9) ⟨⟨_, rfl⟩, [_], _, _, _, N9.get (by k_mem), N9.get (by k_mem), N9.get (by k_mem), ⟨O9.kinds, O9.parts, K9, O9.tup⟩, fun p hp => ?_⟩
      rw [List.mem_singleton.mp hp]
      exact ⟨N9.get (.head _), N9.fresh (.head _), ⟨by (try dsimp only); omega, by (try dsimp only); omega, by (try dsimp only); omega⟩⟩
end
end Mine
end
-- text Meth
section
open PySem PySem.W PySem.Calls PyProof.Rows
set_option Elab.async false
set_option maxRecDepth 100000
set_option linter.unusedVariables false
namespace Mine
noncomputable def neg (r : Circ × Int) : Circ × Int := (r.1, -r.2)
noncomputable def anyOf (c : Circ) (ns : List Int) : Circ × Int := neg (allOf c (ns.map fun n => -n))
noncomputable def both (c : Circ) (x y : Int) : Circ × Int := allOf c [x, y]
noncomputable def either (c : Circ) (x y : Int) : Circ × Int := neg (allOf c [-x, -y])
noncomputable def implies (c : Circ) (x y : Int) : Circ × Int := neg (allOf c [x, -y])
noncomputable def iffG (c : Circ) (x y : Int) : Circ × Int := allOf (implies (implies c x y).1 y x).1 [(implies c x y).2, (implies (implies c x y).1 y x).2]
noncomputable def unlike (c : Circ) (x y : Int) : Circ × Int := neg (iffG c x y)
noncomputable def choose (c : Circ) (z x y : Int) : Circ × Int := allOf (implies (implies c z x).1 (-z) y).1 [(implies c z x).2, (implies (implies c z x).1 (-z) y).2]
noncomputable def Small (c : Circ) (n : Nat) : Prop := c.kinds.length ≤ n ∧ c.parts.length ≤ n ∧ c.known.length ≤ n
theorem allOf_small {c : Circ} {n : Nat} (h : Small c n) (ns : List Int) : Small (allOf c ns).1 (n + 1) := by
  unfold Small at h
  obtain ⟨h1, h2, h3⟩ := h
  have k : Small c (n + 1) := ⟨Nat.le_succ_of_le h1, Nat.le_succ_of_le h2, Nat.le_succ_of_le h3⟩
  unfold allOf
  split
  · exact k
  · split
    · exact k
    · split
      · exact k
      · exact ⟨by simp; omega, by simp; omega, by simp; omega⟩
theorem implies_small {c : Circ} {n : Nat} (h : Small c n) (x y : Int) : Small (implies c x y).1 (n + 1) := allOf_small h _
theorem iffG_small {c : Circ} {n : Nat} (h : Small c n) (x y : Int) : Small (iffG c x y).1 (n + 3) := allOf_small (implies_small (implies_small h _ _) _ _) _

section
variable {w : World} {mean : ExcName → Option Value} {mg mb : Str → Option Value} {base g : Heap} {dp un : Nat} {gd : Option (List Code)} {fr : List Env} {s : Shared} {a : NA} {tl : List (Addr × Obj)} {c : Circ}
    {A₀ : Around} {env : Env} {L : Addr} {m : Str → Option Value} {Q E : Value → Shared → Prop} {R news : List (Addr × Obj)} {G : Obj → Obj → Obj → List (Addr × Obj) → List (Addr × Obj)} {ok op od : Obj}
/-- what is said of a call behind it -/
noncomputable abbrev NetK (g : Heap) (L : Addr) (m : Str → Option Value) (w : World) (a : NA) (R news tl : List (Addr × Obj)) (G : Obj → Obj → Obj → List (Addr × Obj) → List (Addr × Obj)) (n : Nat) (res : Circ × Int) (s : Shared) (Q : Value → Shared → Prop) : Prop :=
  ∀ t h' tk' ok' op' od' add, Fr g L h' m → News g L h' (G ok' op' od' (add ++ R)) → NetObj w (add ++ tl) ok' op' od' res.1 → Pool g a (add ++ R) (add ++ tl) → Small res.1 n → (∀ p ∈ add, ∀ q ∈ news, @Ne Nat p.1 q.1) → Q (.int res.2 t) { s with heap := h', toks := tk' }
theorem all_of_use {ga : Addr} {vs : List Value} {ns : List Int} {n : Nat}
    (B : Below A₀ base fr g) (F : Fr g L s.heap m) (X : (hd.heap_39 w.params).In g) (T : TT mean mg mb g) (N : News g L s.heap news) (hf : env.frame = some L) (hke : env.scope.kind = .function)
    (m1 : (a.ks, ok) ∈ news) (m2 : (a.ps, op) ∈ news) (m3 : (a.kn, od) ∈ news) (U : UpdT a.ks a.ps a.kn ok op od R news G) (O : NetObj w tl ok op od c) (po : Pool g a R tl)
    (hd' : dp + 4 < recursionLimit) (hu : un + 30 < cLine) (hs : Small c n) (hz : n ≤ 900)
    (hG : ∀ g₂ : Heap, g.StaysIn g₂ → (∀ p ∈ news, @Ne Nat p.1 a.ks → @Ne Nat p.1 a.ps → @Ne Nat p.1 a.kn → g₂.get? p.1 = some p.2) → NetG g₂ a)
    (hq : ∀ g₂ : Heap, g.StaysIn g₂ → (∀ p ∈ news, @Ne Nat p.1 a.ks → @Ne Nat p.1 a.ps → @Ne Nat p.1 a.kn → g₂.get? p.1 = some p.2) → SeqIn g₂ ga vs)
    (hi : IntsAre vs ns) (hn : ns.length ≤ 50) (k : NetK g L m w a R news tl G (n + 1) (allOf c ns) s Q) :
    wpAny (model PG w) (ar dp un gd (env :: fr)) (call (.ref 70) [.ref a.net, .ref ga]) Q E s :=
  use_netM (P₀ := fun g => SeqIn g ga vs) (all_of_ctr w mean mg mb a tl c (by unfold Small at hs; omega) (by unfold Small at hs; omega) (by unfold Small at hs; omega) ga vs ns hi hn) B F X T N hf hke m1 m2 m3 U O po hd' hu (fun g₂ st kp => ⟨hG g₂ st kp, hq g₂ st kp⟩)
    fun t h' tk' ok' op' od' add F' N' O' P' hne => k t h' tk' ok' op' od' add F' N' O' P' (allOf_small hs ns) hne
theorem seq_tup {g₂ : Heap} {ga : Addr} {vs : List Value} {o : Obj} {n : Nat} (h : g₂.get? ga = some o) (hc : o.cls = .type "tuple") (hd : o.data = .seq (List.toArray vs) n) : SeqIn g₂ ga vs := .inr ⟨o, h, hc, n, hd⟩
theorem seq_list {g₂ : Heap} {ga : Addr} {vs : List Value} {n : Nat} (h : g₂.get? ga = some (PySem.W.listOf (List.toArray vs) n)) : SeqIn g₂ ga vs := .inl ⟨_, h, rfl, n, rfl⟩
theorem SeqIn.keeps {g g₂ : Heap} {ga : Addr} {vs : List Value} (h : SeqIn g ga vs) (st : g.StaysIn g₂) : SeqIn g₂ ga vs := by
  rcases h with ⟨o, ho, r⟩ | ⟨o, ho, r⟩
  · exact .inl ⟨o, st _ _ ho, r⟩
  · exact .inr ⟨o, st _ _ ho, r⟩
theorem net_end {h' : Heap} {tlx news' : List (Addr × Obj)} {c' : Circ} (N : News g L h' news') (m1 : (a.ks, ok) ∈ news') (m2 : (a.ps, op) ∈ news') (m3 : (a.kn, od) ∈ news') (O : NetObj w tlx ok op od c') (P : Pool g a R tlx) (e : tlx = R ++ tl) (hR : ∀ p ∈ R, p ∈ news') :
    NetPost w g h' a tl c' := by
  subst e
  exact ⟨R, ok, op, od, N.get m1, N.get m2, N.get m3, O, fun p hp => ⟨(N p (hR p hp)).1, (N p (hR p hp)).2.2, P.ne p hp⟩⟩
theorem news3 {h h₁ : Heap} (K₁ : h.StaysIn h₁) (g1 : h.get? a.ks = some ok) (g2 : h.get? a.ps = some op) (g3 : h.get? a.kn = some od) (f1 : g.get? a.ks = none) (f2 : g.get? a.ps = none) (f3 : g.get? a.kn = none) : News g h.objs.size h₁ [(a.ks, ok), (a.ps, op), (a.kn, od)] := by
  intro p hp
  simp only [List.mem_cons, List.not_mem_nil, or_false] at hp
  rcases hp with rfl | rfl | rfl
  · exact ⟨K₁ _ _ g1, Nat.ne_of_lt (Heap.lt_size g1), f1⟩
  · exact ⟨K₁ _ _ g2, Nat.ne_of_lt (Heap.lt_size g2), f2⟩
  · exact ⟨K₁ _ _ g3, Nat.ne_of_lt (Heap.lt_size g3), f3⟩
end
end Mine
end
-- text D6
section
open PySem PySem.W PySem.Calls PyProof.Rows
set_option Elab.async false
set_option maxRecDepth 100000
set_option maxHeartbeats 8000000
set_option linter.unusedVariables false
namespace Mine
local macro_rules | `(tactic| walk_at "p0") => `(tactic| skip)
theorem D6_fill (w : World) : (hd.heap_39 w.params = hd.heap_39 w.params ∧ PySem.Challenge.rw_nu0265_01 = PySem.Challenge.rw_nu0265_01) := by
  k_fill
  exact ⟨rfl, rfl⟩
local macro_rules | `(tactic| walk_at "call ref") => `(tactic| ((fail_if_success (with_reducible show wpAny _ _ (call (Value.ref 120) _) _ _ _)); refine Mine.Stop.mk ?_))
section
variable (w : World) (mean : ExcName → Option Value) (mg mb : Str → Option Value) (a : NA) (tl : List (Addr × Obj)) (c : Circ)
theorem both_ctr (n : Nat) (hs : Small c n) (hz : n ≤ 890) (x y : Int) (tx ty : Tok) :
  Ctr w mean mg mb 82 6 50 [.ref a.net, .int x tx, .int y ty] (fun g h => NetPre w g h a tl c ∧ True)
    (fun g v _ h' => (∃ t, v = .int (both c x y).2 t) ∧ NetPost w g h' a tl (both c x y).1) := by
  rintro dp un gd fr base g s Q E C hd hu ⟨⟨hG, ⟨ok, op, od, g1, g2, g3, hO⟩, f1, f2, f3, hpool⟩, hP₀⟩ hQ
  obtain ⟨hinst, ⟨x1, x2, x3, x4, x5, x6, x7, hdict⟩, n1, n2, n3, lo⟩ := id hG
  have X := C.X
  have T := C.T
  have B := C.B
  have hP := Pool.start (a := a) hpool
  refine wpAny_call ?_
  k_dflt (refine' enter C ?k6 ?k7 ?k8 ?k9 ?kB ?_ ?c2 ?c3 ?c4 ?c5; (case k6 => k_is); (case k7 => k_is); (case k8 => omega); (case k9 => exact BindsTo.of_eq rfl); (case kB => exact locs rfl); (case c2 => exact rfl); (case c3 => exact rfl); (case c4 => exact rfl); (case c5 => decide))
  intro h₁ F K₁
  have N := news3 K₁ g1 g2 g3 f1 f2 f3
  (try dsimp only)
  (try k_fold)
  k_steps
  repeat' (refine Stop.out ?_; (try k_made); (first | ((with_reducible show wpAny _ _ (call (Value.ref 70) _) _ _ _); k_dflt (refine' all_of_use ?y7B ?y7F ?y7X ?y7T ?y7N ?y7f ?y7k ?y7m1 ?y7m2 ?y7m3 ?y7U ?y7O ?y7po ?y7d ?y7u ?y7hs ?y7hz ?y7G ?y7q ?y7i ?y7n ?_; (case y7B => k_asm); (case y7F => k_asm); (case y7X => k_asm); (case y7T => k_asm); (case y7N => k_asm); (case y7f => exact rfl); (case y7k => exact rfl); (case y7m1 => k_mem); (case y7m2 => k_mem); (case y7m3 => k_mem); (case y7U => (repeat' (first | refine' UpdT.one ?_ | refine' UpdT.two ?_ | refine' UpdT.three ?_ | (refine' UpdT.skip ?y8a ?y8b ?y8c ?_; (case y8a => ((try dsimp only); omega)); (case y8b => ((try dsimp only); omega)); (case y8c => ((try dsimp only); omega))) | exact UpdT.tail))); (case y7O => assumption); (case y7po => assumption); (case y7d => (dsimp only [Around.deeper, ar]; (refine Nat.lt_of_le_of_lt ?_ (by assumption)); simp)); (case y7u => (dsimp only [Around.deeper, ar]; (refine Nat.lt_of_le_of_lt ?_ (by assumption)); simp)); (case y7hs => assumption); (case y7hz => omega); (case y7G => (intro g₂ st kp; exact NetG.keeps (by assumption) st)); (case y7q => (intro g₂ st kp; first | exact seq_tup (kp _ (by k_mem) (by (try dsimp only); omega) (by (try dsimp only); omega) (by (try dsimp only); omega)) rfl rfl | exact seq_list (kp _ (by k_mem) (by (try dsimp only); omega) (by (try dsimp only); omega) (by (try dsimp only); omega)) | exact SeqIn.keeps (by assumption) st)); (case y7i => first | assumption | exact IntsAre.cons _ _ (IntsAre.cons _ _ IntsAre.nil)); (case y7n => first | (simp; omega) | simp | omega)); intro t9 h9 tk9 ok9 op9 od9 add9 F9 N9 O9 P9 S9 ne9; (try dsimp only at N9)) | fail "no line"); k_steps)
  exact hQ _ _ _ (Fr.keep (by assumption)) ⟨⟨_, rfl⟩, net_end (by assumption) (by k_mem) (by k_mem) (by k_mem) (by assumption) (by assumption) (by simp) (by intro p hp; repeat (first | exact hp | apply List.Mem.tail))⟩
theorem either_ctr (n : Nat) (hs : Small c n) (hz : n ≤ 890) (x y : Int) (tx ty : Tok) :
  Ctr w mean mg mb 89 6 50 [.ref a.net, .int x tx, .int y ty] (fun g h => NetPre w g h a tl c ∧ True)
    (fun g v _ h' => (∃ t, v = .int (either c x y).2 t) ∧ NetPost w g h' a tl (either c x y).1) := by
  rintro dp un gd fr base g s Q E C hd hu ⟨⟨hG, ⟨ok, op, od, g1, g2, g3, hO⟩, f1, f2, f3, hpool⟩, hP₀⟩ hQ
  obtain ⟨hinst, ⟨x1, x2, x3, x4, x5, x6, x7, hdict⟩, n1, n2, n3, lo⟩ := id hG
  have X := C.X
  have T := C.T
  have B := C.B
  have hP := Pool.start (a := a) hpool
  refine wpAny_call ?_
  k_dflt (refine' enter C ?k6 ?k7 ?k8 ?k9 ?kB ?_ ?c2 ?c3 ?c4 ?c5; (case k6 => k_is); (case k7 => k_is); (case k8 => omega); (case k9 => exact BindsTo.of_eq rfl); (case kB => exact locs rfl); (case c2 => exact rfl); (case c3 => exact rfl); (case c4 => exact rfl); (case c5 => decide))
  intro h₁ F K₁
  have N := news3 K₁ g1 g2 g3 f1 f2 f3
  (try dsimp only)
  (try k_fold)
  k_steps
  repeat' (refine Stop.out ?_; (try k_made); (first | ((with_reducible show wpAny _ _ (call (Value.ref 70) _) _ _ _); k_dflt (refine' all_of_use ?y7B ?y7F ?y7X ?y7T ?y7N ?y7f ?y7k ?y7m1 ?y7m2 ?y7m3 ?y7U ?y7O ?y7po ?y7d ?y7u ?y7hs ?y7hz ?y7G ?y7q ?y7i ?y7n ?_; (case y7B => k_asm); (case y7F => k_asm); (case y7X => k_asm); (case y7T => k_asm); (case y7N => k_asm); (case y7f => exact rfl); (case y7k => exact rfl); (case y7m1 => k_mem); (case y7m2 => k_mem); (case y7m3 => k_mem); (case y7U => (repeat' (first | refine' UpdT.one ?_ | refine' UpdT.two ?_ | refine' UpdT.three ?_ | (refine' UpdT.skip ?y8a ?y8b ?y8c ?_; (case y8a => ((try dsimp only); omega)); (case y8b => ((try dsimp only); omega)); (case y8c => ((try dsimp only); omega))) | exact UpdT.tail))); (case y7O => assumption); (case y7po => assumption); (case y7d => (dsimp only [Around.deeper, ar]; (refine Nat.lt_of_le_of_lt ?_ (by assumption)); simp)); (case y7u => (dsimp only [Around.deeper, ar]; (refine Nat.lt_of_le_of_lt ?_ (by assumption)); simp)); (case y7hs => assumption); (case y7hz => omega); (case y7G => (intro g₂ st kp; exact NetG.keeps (by assumption) st)); (case y7q => (intro g₂ st kp; first | exact seq_tup (kp _ (by k_mem) (by (try dsimp only); omega) (by (try dsimp only); omega) (by (try dsimp only); omega)) rfl rfl | exact seq_list (kp _ (by k_mem) (by (try dsimp only); omega) (by (try dsimp only); omega) (by (try dsimp only); omega)) | exact SeqIn.keeps (by assumption) st)); (case y7i => first | assumption | exact IntsAre.cons _ _ (IntsAre.cons _ _ IntsAre.nil)); (case y7n => first | (simp; omega) | simp | omega)); intro t9 h9 tk9 ok9 op9 od9 add9 F9 N9 O9 P9 S9 ne9; (try dsimp only at N9)) | fail "no line"); k_steps)
  exact hQ _ _ _ (Fr.keep (by assumption)) ⟨⟨_, rfl⟩, net_end (by assumption) (by k_mem) (by k_mem) (by k_mem) (by assumption) (by assumption) (by simp) (by intro p hp; repeat (first | exact hp | apply List.Mem.tail))⟩
theorem implies_ctr (n : Nat) (hs : Small c n) (hz : n ≤ 890) (x y : Int) (tx ty : Tok) :
  Ctr w mean mg mb 96 6 50 [.ref a.net, .int x tx, .int y ty] (fun g h => NetPre w g h a tl c ∧ True)
    (fun g v _ h' => (∃ t, v = .int (implies c x y).2 t) ∧ NetPost w g h' a tl (implies c x y).1) := by
  rintro dp un gd fr base g s Q E C hd hu ⟨⟨hG, ⟨ok, op, od, g1, g2, g3, hO⟩, f1, f2, f3, hpool⟩, hP₀⟩ hQ
  obtain ⟨hinst, ⟨x1, x2, x3, x4, x5, x6, x7, hdict⟩, n1, n2, n3, lo⟩ := id hG
  have X := C.X
  have T := C.T
  have B := C.B
  have hP := Pool.start (a := a) hpool
  refine wpAny_call ?_
  k_dflt (refine' enter C ?k6 ?k7 ?k8 ?k9 ?kB ?_ ?c2 ?c3 ?c4 ?c5; (case k6 => k_is); (case k7 => k_is); (case k8 => omega); (case k9 => exact BindsTo.of_eq rfl); (case kB => exact locs rfl); (case c2 => exact rfl); (case c3 => exact rfl); (case c4 => exact rfl); (case c5 => decide))
  intro h₁ F K₁
  have N := news3 K₁ g1 g2 g3 f1 f2 f3
  (try dsimp only)
  (try k_fold)
  k_steps
  repeat' (refine Stop.out ?_; (try k_made); (first | ((with_reducible show wpAny _ _ (call (Value.ref 70) _) _ _ _); k_dflt (refine' all_of_use ?y7B ?y7F ?y7X ?y7T ?y7N ?y7f ?y7k ?y7m1 ?y7m2 ?y7m3 ?y7U ?y7O ?y7po ?y7d ?y7u ?y7hs ?y7hz ?y7G ?y7q ?y7i ?y7n ?_; (case y7B => k_asm); (case y7F => k_asm); (case y7X => k_asm); (case y7T => k_asm); (case y7N => k_asm); (case y7f => exact rfl); (case y7k => exact rfl); (case y7m1 => k_mem); (case y7m2 => k_mem); (case y7m3 => k_mem); (case y7U => (repeat' (first | refine' UpdT.one ?_ | refine' UpdT.two ?_ | refine' UpdT.three ?_ | (refine' UpdT.skip ?y8a ?y8b ?y8c ?_; (case y8a => ((try dsimp only); omega)); (case y8b => ((try dsimp only); omega)); (case y8c => ((try dsimp only); omega))) | exact UpdT.tail))); (case y7O => assumption); (case y7po => assumption); (case y7d => (dsimp only [Around.deeper, ar]; (refine Nat.lt_of_le_of_lt ?_ (by assumption)); simp)); (case y7u => (dsimp only [Around.deeper, ar]; (refine Nat.lt_of_le_of_lt ?_ (by assumption)); simp)); (case y7hs => assumption); (case y7hz => omega); (case y7G => (intro g₂ st kp; exact NetG.keeps (by assumption) st)); (case y7q => (intro g₂ st kp; first | exact seq_tup (kp _ (by k_mem) (by (try dsimp only); omega) (by (try dsimp only); omega) (by (try dsimp only); omega)) rfl rfl | exact seq_list (kp _ (by k_mem) (by (try dsimp only); omega) (by (try dsimp only); omega) (by (try dsimp only); omega)) | exact SeqIn.keeps (by assumption) st)); (case y7i => first | assumption | exact IntsAre.cons _ _ (IntsAre.cons _ _ IntsAre.nil)); (case y7n => first | (simp; omega) | simp | omega)); intro t9 h9 tk9 ok9 op9 od9 add9 F9 N9 O9 P9 S9 ne9; (try dsimp only at N9)) | fail "no line"); k_steps)
  exact hQ _ _ _ (Fr.keep (by assumption)) ⟨⟨_, rfl⟩, net_end (by assumption) (by k_mem) (by k_mem) (by k_mem) (by assumption) (by assumption) (by simp) (by intro p hp; repeat (first | exact hp | apply List.Mem.tail))⟩
end
end Mine
end
-- text Meth2
section
open PySem PySem.W PySem.Calls PyProof.Rows
set_option Elab.async false
set_option maxRecDepth 100000
set_option linter.unusedVariables false
namespace Mine
section
variable {w : World} {mean : ExcName → Option Value} {mg mb : Str → Option Value} {base g : Heap} {dp un : Nat} {gd : Option (List Code)} {fr : List Env} {s : Shared} {a : NA} {tl : List (Addr × Obj)} {c : Circ}
    {A₀ : Around} {env : Env} {L : Addr} {m : Str → Option Value} {Q E : Value → Shared → Prop} {R news : List (Addr × Obj)} {G : Obj → Obj → Obj → List (Addr × Obj) → List (Addr × Obj)} {ok op od : Obj}
theorem implies_use {x y : Int} {tx ty : Tok} {n : Nat}
    (B : Below A₀ base fr g) (F : Fr g L s.heap m) (X : (hd.heap_39 w.params).In g) (T : TT mean mg mb g) (N : News g L s.heap news) (hf : env.frame = some L) (hke : env.scope.kind = .function)
    (m1 : (a.ks, ok) ∈ news) (m2 : (a.ps, op) ∈ news) (m3 : (a.kn, od) ∈ news) (U : UpdT a.ks a.ps a.kn ok op od R news G) (O : NetObj w tl ok op od c) (po : Pool g a R tl)
    (hd' : dp + 6 < recursionLimit) (hu : un + 50 < cLine) (hs : Small c n) (hz : n ≤ 890)
    (hG : ∀ g₂ : Heap, g.StaysIn g₂ → (∀ p ∈ news, @Ne Nat p.1 a.ks → @Ne Nat p.1 a.ps → @Ne Nat p.1 a.kn → g₂.get? p.1 = some p.2) → NetG g₂ a)
    (k : NetK g L m w a R news tl G (n + 1) (implies c x y) s Q) :
    wpAny (model PG w) (ar dp un gd (env :: fr)) (call (.ref 96) [.ref a.net, .int x tx, .int y ty]) Q E s :=
  use_netM (P₀ := fun _ => True) (implies_ctr w mean mg mb a tl c n hs hz x y tx ty) B F X T N hf hke m1 m2 m3 U O po hd' hu (fun g₂ st kp => ⟨hG g₂ st kp, trivial⟩)
    fun t h' tk' ok' op' od' add F' N' O' P' hne => k t h' tk' ok' op' od' add F' N' O' P' (implies_small hs x y) hne
theorem both_use {x y : Int} {tx ty : Tok} {n : Nat}
    (B : Below A₀ base fr g) (F : Fr g L s.heap m) (X : (hd.heap_39 w.params).In g) (T : TT mean mg mb g) (N : News g L s.heap news) (hf : env.frame = some L) (hke : env.scope.kind = .function)
    (m1 : (a.ks, ok) ∈ news) (m2 : (a.ps, op) ∈ news) (m3 : (a.kn, od) ∈ news) (U : UpdT a.ks a.ps a.kn ok op od R news G) (O : NetObj w tl ok op od c) (po : Pool g a R tl)
    (hd' : dp + 6 < recursionLimit) (hu : un + 50 < cLine) (hs : Small c n) (hz : n ≤ 890)
    (hG : ∀ g₂ : Heap, g.StaysIn g₂ → (∀ p ∈ news, @Ne Nat p.1 a.ks → @Ne Nat p.1 a.ps → @Ne Nat p.1 a.kn → g₂.get? p.1 = some p.2) → NetG g₂ a)
    (k : NetK g L m w a R news tl G (n + 1) (both c x y) s Q) :
    wpAny (model PG w) (ar dp un gd (env :: fr)) (call (.ref 82) [.ref a.net, .int x tx, .int y ty]) Q E s :=
  use_netM (P₀ := fun _ => True) (both_ctr w mean mg mb a tl c n hs hz x y tx ty) B F X T N hf hke m1 m2 m3 U O po hd' hu (fun g₂ st kp => ⟨hG g₂ st kp, trivial⟩)
    fun t h' tk' ok' op' od' add F' N' O' P' hne => k t h' tk' ok' op' od' add F' N' O' P' (allOf_small hs _) hne
theorem either_use {x y : Int} {tx ty : Tok} {n : Nat}
    (B : Below A₀ base fr g) (F : Fr g L s.heap m) (X : (hd.heap_39 w.params).In g) (T : TT mean mg mb g) (N : News g L s.heap news) (hf : env.frame = some L) (hke : env.scope.kind = .function)
    (m1 : (a.ks, ok) ∈ news) (m2 : (a.ps, op) ∈ news) (m3 : (a.kn, od) ∈ news) (U : UpdT a.ks a.ps a.kn ok op od R news G) (O : NetObj w tl ok op od c) (po : Pool g a R tl)
    (hd' : dp + 6 < recursionLimit) (hu : un + 50 < cLine) (hs : Small c n) (hz : n ≤ 890)
    (hG : ∀ g₂ : Heap, g.StaysIn g₂ → (∀ p ∈ news, @Ne Nat p.1 a.ks → @Ne Nat p.1 a.ps → @Ne Nat p.1 a.kn → g₂.get? p.1 = some p.2) → NetG g₂ a)
    (k : NetK g L m w a R news tl G (n + 1) (either c x y) s Q) :
    wpAny (model PG w) (ar dp un gd (env :: fr)) (call (.ref 89) [.ref a.net, .int x tx, .int y ty]) Q E s :=
  use_netM (P₀ := fun _ => True) (either_ctr w mean mg mb a tl c n hs hz x y tx ty) B F X T N hf hke m1 m2 m3 U O po hd' hu (fun g₂ st kp => ⟨hG g₂ st kp, trivial⟩)
    fun t h' tk' ok' op' od' add F' N' O' P' hne => k t h' tk' ok' op' od' add F' N' O' P' (allOf_small hs _) hne
end
end Mine
end
-- text D7
section
open PySem PySem.W PySem.Calls PyProof.Rows
set_option Elab.async false
set_option maxRecDepth 100000
set_option maxHeartbeats 8000000
set_option linter.unusedVariables false
namespace Mine
local macro_rules | `(tactic| walk_at "p0") => `(tactic| skip)
local macro_rules | `(tactic| walk_at "p1") => `(tactic| skip)
theorem D7_fill (w : World) : (hd.heap_39 w.params = hd.heap_39 w.params ∧ PySem.Challenge.rw_nu0265_01 = PySem.Challenge.rw_nu0265_01) := by
  k_fill
  exact ⟨rfl, rfl⟩
local macro_rules | `(tactic| walk_at "call ref") => `(tactic| ((fail_if_success (with_reducible show wpAny _ _ (call (Value.ref 120) _) _ _ _)); refine Mine.Stop.mk ?_))
section
variable (w : World) (mean : ExcName → Option Value) (mg mb : Str → Option Value) (a : NA) (tl : List (Addr × Obj)) (c : Circ)
theorem iff_ctr (n : Nat) (hs : Small c n) (hz : n ≤ 880) (x y : Int) (tx ty : Tok) :
  Ctr w mean mg mb 103 8 70 [.ref a.net, .int x tx, .int y ty] (fun g h => NetPre w g h a tl c ∧ True)
    (fun g v _ h' => (∃ t, v = .int (iffG c x y).2 t) ∧ NetPost w g h' a tl (iffG c x y).1) := by
  rintro dp un gd fr base g s Q E C hd hu ⟨⟨hG, ⟨ok, op, od, g1, g2, g3, hO⟩, f1, f2, f3, hpool⟩, hP₀⟩ hQ
  obtain ⟨hinst, ⟨x1, x2, x3, x4, x5, x6, x7, hdict⟩, n1, n2, n3, lo⟩ := id hG
  have X := C.X
  have T := C.T
  have B := C.B
  have hP := Pool.start (a := a) hpool
  refine wpAny_call ?_
  k_dflt (refine' enter C ?k6 ?k7 ?k8 ?k9 ?kB ?_ ?c2 ?c3 ?c4 ?c5; (case k6 => k_is); (case k7 => k_is); (case k8 => omega); (case k9 => exact BindsTo.of_eq rfl); (case kB => exact locs rfl); (case c2 => exact rfl); (case c3 => exact rfl); (case c4 => exact rfl); (case c5 => decide))
  intro h₁ F K₁
  have N := news3 K₁ g1 g2 g3 f1 f2 f3
  (try dsimp only)
  (try k_fold)
  k_steps
  repeat' (refine Stop.out ?_; (try k_made); (first | ((with_reducible show wpAny _ _ (call (Value.ref 70) _) _ _ _); k_dflt (refine' all_of_use ?y7B ?y7F ?y7X ?y7T ?y7N ?y7f ?y7k ?y7m1 ?y7m2 ?y7m3 ?y7U ?y7O ?y7po ?y7d ?y7u ?y7hs ?y7hz ?y7G ?y7q ?y7i ?y7n ?_; (case y7B => k_asm); (case y7F => k_asm); (case y7X => k_asm); (case y7T => k_asm); (case y7N => k_asm); (case y7f => exact rfl); (case y7k => exact rfl); (case y7m1 => k_mem); (case y7m2 => k_mem); (case y7m3 => k_mem); (case y7U => (repeat' (first | refine' UpdT.one ?_ | refine' UpdT.two ?_ | refine' UpdT.three ?_ | (refine' UpdT.skip ?y8a ?y8b ?y8c ?_; (case y8a => ((try dsimp only); omega)); (case y8b => ((try dsimp only); omega)); (case y8c => ((try dsimp only); omega))) | exact UpdT.tail))); (case y7O => assumption); (case y7po => assumption); (case y7d => (dsimp only [Around.deeper, ar]; (refine Nat.lt_of_le_of_lt ?_ (by assumption)); simp)); (case y7u => (dsimp only [Around.deeper, ar]; (refine Nat.lt_of_le_of_lt ?_ (by assumption)); simp)); (case y7hs => assumption); (case y7hz => omega); (case y7G => (intro g₂ st kp; exact NetG.keeps (by assumption) st)); (case y7q => (intro g₂ st kp; first | exact seq_tup (kp _ (by k_mem) (by (try dsimp only); omega) (by (try dsimp only); omega) (by (try dsimp only); omega)) rfl rfl | exact seq_list (kp _ (by k_mem) (by (try dsimp only); omega) (by (try dsimp only); omega) (by (try dsimp only); omega)) | exact SeqIn.keeps (by assumption) st)); (case y7i => first | assumption | exact IntsAre.cons _ _ (IntsAre.cons _ _ IntsAre.nil)); (case y7n => first | (simp; omega) | simp | omega)); intro t9 h9 tk9 ok9 op9 od9 add9 F9 N9 O9 P9 S9 ne9; (try dsimp only at N9)) | ((with_reducible show wpAny _ _ (call (Value.ref 96) _) _ _ _); k_dflt (refine' implies_use ?y7B ?y7F ?y7X ?y7T ?y7N ?y7f ?y7k ?y7m1 ?y7m2 ?y7m3 ?y7U ?y7O ?y7po ?y7d ?y7u ?y7hs ?y7hz ?y7G ?_; (case y7B => k_asm); (case y7F => k_asm); (case y7X => k_asm); (case y7T => k_asm); (case y7N => k_asm); (case y7f => exact rfl); (case y7k => exact rfl); (case y7m1 => k_mem); (case y7m2 => k_mem); (case y7m3 => k_mem); (case y7U => (repeat' (first | refine' UpdT.one ?_ | refine' UpdT.two ?_ | refine' UpdT.three ?_ | (refine' UpdT.skip ?y8a ?y8b ?y8c ?_; (case y8a => ((try dsimp only); omega)); (case y8b => ((try dsimp only); omega)); (case y8c => ((try dsimp only); omega))) | exact UpdT.tail))); (case y7O => assumption); (case y7po => assumption); (case y7d => (dsimp only [Around.deeper, ar]; (refine Nat.lt_of_le_of_lt ?_ (by assumption)); simp)); (case y7u => (dsimp only [Around.deeper, ar]; (refine Nat.lt_of_le_of_lt ?_ (by assumption)); simp)); (case y7hs => assumption); (case y7hz => omega); (case y7G => (intro g₂ st kp; exact NetG.keeps (by assumption) st))); intro t9 h9 tk9 ok9 op9 od9 add9 F9 N9 O9 P9 S9 ne9; (try dsimp only at N9)) | fail "no line"); k_steps)
  exact hQ _ _ _ (Fr.keep (by assumption)) ⟨⟨_, rfl⟩, net_end (by assumption) (by k_mem) (by k_mem) (by k_mem) (by assumption) (by assumption) (by simp) (by intro p hp; repeat (first | exact hp | apply List.Mem.tail))⟩
theorem choose_ctr (n : Nat) (hs : Small c n) (hz : n ≤ 880) (z x y : Int) (tz tx ty : Tok) :
  Ctr w mean mg mb 117 8 70 [.ref a.net, .int z tz, .int x tx, .int y ty] (fun g h => NetPre w g h a tl c ∧ True)
    (fun g v _ h' => (∃ t, v = .int (choose c z x y).2 t) ∧ NetPost w g h' a tl (choose c z x y).1) := by
  rintro dp un gd fr base g s Q E C hd hu ⟨⟨hG, ⟨ok, op, od, g1, g2, g3, hO⟩, f1, f2, f3, hpool⟩, hP₀⟩ hQ
  obtain ⟨hinst, ⟨x1, x2, x3, x4, x5, x6, x7, hdict⟩, n1, n2, n3, lo⟩ := id hG
  have X := C.X
  have T := C.T
  have B := C.B
  have hP := Pool.start (a := a) hpool
  refine wpAny_call ?_
  k_dflt (refine' enter C ?k6 ?k7 ?k8 ?k9 ?kB ?_ ?c2 ?c3 ?c4 ?c5; (case k6 => k_is); (case k7 => k_is); (case k8 => omega); (case k9 => exact BindsTo.of_eq rfl); (case kB => exact locs rfl); (case c2 => exact rfl); (case c3 => exact rfl); (case c4 => exact rfl); (case c5 => decide))
  intro h₁ F K₁
  have N := news3 K₁ g1 g2 g3 f1 f2 f3
  (try dsimp only)
  (try k_fold)
  k_steps
  repeat' (refine Stop.out ?_; (try k_made); (first | ((with_reducible show wpAny _ _ (call (Value.ref 70) _) _ _ _); k_dflt (refine' all_of_use ?y7B ?y7F ?y7X ?y7T ?y7N ?y7f ?y7k ?y7m1 ?y7m2 ?y7m3 ?y7U ?y7O ?y7po ?y7d ?y7u ?y7hs ?y7hz ?y7G ?y7q ?y7i ?y7n ?_; (case y7B => k_asm); (case y7F => k_asm); (case y7X => k_asm); (case y7T => k_asm); (case y7N => k_asm); (case y7f => exact rfl); (case y7k => exact rfl); (case y7m1 => k_mem); (case y7m2 => k_mem); (case y7m3 => k_mem); (case y7U => (repeat' (first | refine' UpdT.one ?_ | refine' UpdT.two ?_ | refine' UpdT.three ?_ | (refine' UpdT.skip ?y8a ?y8b ?y8c ?_; (case y8a => ((try dsimp only); omega)); (case y8b => ((try dsimp only); omega)); (case y8c => ((try dsimp only); omega))) | exact UpdT.tail))); (case y7O => assumption); (case y7po => assumption); (case y7d => (dsimp only [Around.deeper, ar]; (refine Nat.lt_of_le_of_lt ?_ (by assumption)); simp)); (case y7u => (dsimp only [Around.deeper, ar]; (refine Nat.lt_of_le_of_lt ?_ (by assumption)); simp)); (case y7hs => assumption); (case y7hz => omega); (case y7G => (intro g₂ st kp; exact NetG.keeps (by assumption) st)); (case y7q => (intro g₂ st kp; first | exact seq_tup (kp _ (by k_mem) (by (try dsimp only); omega) (by (try dsimp only); omega) (by (try dsimp only); omega)) rfl rfl | exact seq_list (kp _ (by k_mem) (by (try dsimp only); omega) (by (try dsimp only); omega) (by (try dsimp only); omega)) | exact SeqIn.keeps (by assumption) st)); (case y7i => first | assumption | exact IntsAre.cons _ _ (IntsAre.cons _ _ IntsAre.nil)); (case y7n => first | (simp; omega) | simp | omega)); intro t9 h9 tk9 ok9 op9 od9 add9 F9 N9 O9 P9 S9 ne9; (try dsimp only at N9)) | ((with_reducible show wpAny _ _ (call (Value.ref 96) _) _ _ _); k_dflt (refine' implies_use ?y7B ?y7F ?y7X ?y7T ?y7N ?y7f ?y7k ?y7m1 ?y7m2 ?y7m3 ?y7U ?y7O ?y7po ?y7d ?y7u ?y7hs ?y7hz ?y7G ?_; (case y7B => k_asm); (case y7F => k_asm); (case y7X => k_asm); (case y7T => k_asm); (case y7N => k_asm); (case y7f => exact rfl); (case y7k => exact rfl); (case y7m1 => k_mem); (case y7m2 => k_mem); (case y7m3 => k_mem); (case y7U => (repeat' (first | refine' UpdT.one ?_ | refine' UpdT.two ?_ | refine' UpdT.three ?_ | (refine' UpdT.skip ?y8a ?y8b ?y8c ?_; (case y8a => ((try dsimp only); omega)); (case y8b => ((try dsimp only); omega)); (case y8c => ((try dsimp only); omega))) | exact UpdT.tail))); (case y7O => assumption); (case y7po => assumption); (case y7d => (dsimp only [Around.deeper, ar]; (refine Nat.lt_of_le_of_lt ?_ (by assumption)); simp)); (case y7u => (dsimp only [Around.deeper, ar]; (refine Nat.lt_of_le_of_lt ?_ (by assumption)); simp)); (case y7hs => assumption); (case y7hz => omega); (case y7G => (intro g₂ st kp; exact NetG.keeps (by assumption) st))); intro t9 h9 tk9 ok9 op9 od9 add9 F9 N9 O9 P9 S9 ne9; (try dsimp only at N9)) | fail "no line"); k_steps)
  exact hQ _ _ _ (Fr.keep (by assumption)) ⟨⟨_, rfl⟩, net_end (by assumption) (by k_mem) (by k_mem) (by k_mem) (by assumption) (by assumption) (by simp) (by intro p hp; repeat (first | exact hp | apply List.Mem.tail))⟩
end
end Mine
end
-- text Meth3
section
open PySem PySem.W PySem.Calls PyProof.Rows
set_option Elab.async false
set_option maxRecDepth 100000
set_option linter.unusedVariables false
namespace Mine
theorem choose_small {c : Circ} {n : Nat} (h : Small c n) (z x y : Int) : Small (choose c z x y).1 (n + 3) := allOf_small (implies_small (implies_small h _ _) _ _) _
section
variable {w : World} {mean : ExcName → Option Value} {mg mb : Str → Option Value} {base g : Heap} {dp un : Nat} {gd : Option (List Code)} {fr : List Env} {s : Shared} {a : NA} {tl : List (Addr × Obj)} {c : Circ}
    {A₀ : Around} {env : Env} {L : Addr} {m : Str → Option Value} {Q E : Value → Shared → Prop} {R news : List (Addr × Obj)} {G : Obj → Obj → Obj → List (Addr × Obj) → List (Addr × Obj)} {ok op od : Obj}
theorem iff_use {x y : Int} {tx ty : Tok} {n : Nat}
    (B : Below A₀ base fr g) (F : Fr g L s.heap m) (X : (hd.heap_39 w.params).In g) (T : TT mean mg mb g) (N : News g L s.heap news) (hf : env.frame = some L) (hke : env.scope.kind = .function)
    (m1 : (a.ks, ok) ∈ news) (m2 : (a.ps, op) ∈ news) (m3 : (a.kn, od) ∈ news) (U : UpdT a.ks a.ps a.kn ok op od R news G) (O : NetObj w tl ok op od c) (po : Pool g a R tl)
    (hd' : dp + 8 < recursionLimit) (hu : un + 70 < cLine) (hs : Small c n) (hz : n ≤ 880)
    (hG : ∀ g₂ : Heap, g.StaysIn g₂ → (∀ p ∈ news, @Ne Nat p.1 a.ks → @Ne Nat p.1 a.ps → @Ne Nat p.1 a.kn → g₂.get? p.1 = some p.2) → NetG g₂ a)
    (k : NetK g L m w a R news tl G (n + 3) (iffG c x y) s Q) :
    wpAny (model PG w) (ar dp un gd (env :: fr)) (call (.ref 103) [.ref a.net, .int x tx, .int y ty]) Q E s :=
  use_netM (P₀ := fun _ => True) (iff_ctr w mean mg mb a tl c n hs hz x y tx ty) B F X T N hf hke m1 m2 m3 U O po hd' hu (fun g₂ st kp => ⟨hG g₂ st kp, trivial⟩)
    fun t h' tk' ok' op' od' add F' N' O' P' hne => k t h' tk' ok' op' od' add F' N' O' P' (iffG_small hs x y) hne
theorem choose_use {z x y : Int} {tz tx ty : Tok} {n : Nat}
    (B : Below A₀ base fr g) (F : Fr g L s.heap m) (X : (hd.heap_39 w.params).In g) (T : TT mean mg mb g) (N : News g L s.heap news) (hf : env.frame = some L) (hke : env.scope.kind = .function)
    (m1 : (a.ks, ok) ∈ news) (m2 : (a.ps, op) ∈ news) (m3 : (a.kn, od) ∈ news) (U : UpdT a.ks a.ps a.kn ok op od R news G) (O : NetObj w tl ok op od c) (po : Pool g a R tl)
    (hd' : dp + 8 < recursionLimit) (hu : un + 70 < cLine) (hs : Small c n) (hz : n ≤ 880)
    (hG : ∀ g₂ : Heap, g.StaysIn g₂ → (∀ p ∈ news, @Ne Nat p.1 a.ks → @Ne Nat p.1 a.ps → @Ne Nat p.1 a.kn → g₂.get? p.1 = some p.2) → NetG g₂ a)
    (k : NetK g L m w a R news tl G (n + 3) (choose c z x y) s Q) :
    wpAny (model PG w) (ar dp un gd (env :: fr)) (call (.ref 117) [.ref a.net, .int z tz, .int x tx, .int y ty]) Q E s :=
  use_netM (P₀ := fun _ => True) (choose_ctr w mean mg mb a tl c n hs hz z x y tz tx ty) B F X T N hf hke m1 m2 m3 U O po hd' hu (fun g₂ st kp => ⟨hG g₂ st kp, trivial⟩)
    fun t h' tk' ok' op' od' add F' N' O' P' hne => k t h' tk' ok' op' od' add F' N' O' P' (choose_small hs z x y) hne
end
end Mine
end
-- text D8
section
open PySem PySem.W PySem.Calls PyProof.Rows
set_option Elab.async false
set_option maxRecDepth 100000
set_option maxHeartbeats 8000000
set_option linter.unusedVariables false
namespace Mine
local macro_rules | `(tactic| walk_at "p0") => `(tactic| skip)
local macro_rules | `(tactic| walk_at "p1") => `(tactic| skip)
local macro_rules | `(tactic| walk_at "p2") => `(tactic| skip)
theorem D8_fill (w : World) : (hd.heap_39 w.params = hd.heap_39 w.params ∧ PySem.Challenge.rw_nu0265_01 = PySem.Challenge.rw_nu0265_01) := by
  k_fill
  exact ⟨rfl, rfl⟩
local macro_rules | `(tactic| walk_at "call ref") => `(tactic| ((fail_if_success (with_reducible show wpAny _ _ (call (Value.ref 120) _) _ _ _)); refine Mine.Stop.mk ?_))
section
variable (w : World) (mean : ExcName → Option Value) (mg mb : Str → Option Value) (a : NA) (tl : List (Addr × Obj)) (c : Circ)
theorem unlike_ctr (n : Nat) (hs : Small c n) (hz : n ≤ 870) (x y : Int) (tx ty : Tok) :
  Ctr w mean mg mb 110 10 90 [.ref a.net, .int x tx, .int y ty] (fun g h => NetPre w g h a tl c ∧ True)
    (fun g v _ h' => (∃ t, v = .int (unlike c x y).2 t) ∧ NetPost w g h' a tl (unlike c x y).1) := by
  rintro dp un gd fr base g s Q E C hd hu ⟨⟨hG, ⟨ok, op, od, g1, g2, g3, hO⟩, f1, f2, f3, hpool⟩, hP₀⟩ hQ
  obtain ⟨hinst, ⟨x1, x2, x3, x4, x5, x6, x7, hdict⟩, n1, n2, n3, lo⟩ := id hG
  have X := C.X
  have T := C.T
  have B := C.B
  have hP := Pool.start (a := a) hpool
  refine wpAny_call ?_
  k_dflt (refine' enter C ?k6 ?k7 ?k8 ?k9 ?kB ?_ ?c2 ?c3 ?c4 ?c5; (case k6 => k_is); (case k7 => k_is); (case k8 => omega); (case k9 => exact BindsTo.of_eq rfl); (case kB => exact locs rfl); (case c2 => exact rfl); (case c3 => exact rfl); (case c4 => exact rfl); (case c5 => decide))
  intro h₁ F K₁
  have N := news3 K₁ g1 g2 g3 f1 f2 f3
  (try dsimp only)
  (try k_fold)
  k_steps
  repeat' (refine Stop.out ?_; (try k_made); (first | ((with_reducible show wpAny _ _ (call (Value.ref 70) _) _ _ _); k_dflt (refine' all_of_use ?y7B ?y7F ?y7X ?y7T ?y7N ?y7f ?y7k ?y7m1 ?y7m2 ?y7m3 ?y7U ?y7O ?y7po ?y7d ?y7u ?y7hs ?y7hz ?y7G ?y7q ?y7i ?y7n ?_; (case y7B => k_asm); (case y7F => k_asm); (case y7X => k_asm); (case y7T => k_asm); (case y7N => k_asm); (case y7f => exact rfl); (case y7k => exact rfl); (case y7m1 => k_mem); (case y7m2 => k_mem); (case y7m3 => k_mem); (case y7U => (repeat' (first | refine' UpdT.one ?_ | refine' UpdT.two ?_ | refine' UpdT.three ?_ | (refine' UpdT.skip ?y8a ?y8b ?y8c ?_; (case y8a => ((try dsimp only); omega)); (case y8b => ((try dsimp only); omega)); (case y8c => ((try dsimp only); omega))) | exact UpdT.tail))); (case y7O => assumption); (case y7po => assumption); (case y7d => (dsimp only [Around.deeper, ar]; (refine Nat.lt_of_le_of_lt ?_ (by assumption)); simp)); (case y7u => (dsimp only [Around.deeper, ar]; (refine Nat.lt_of_le_of_lt ?_ (by assumption)); simp)); (case y7hs => assumption); (case y7hz => omega); (case y7G => (intro g₂ st kp; exact NetG.keeps (by assumption) st)); (case y7q => (intro g₂ st kp; first | exact seq_tup (kp _ (by k_mem) (by (try dsimp only); omega) (by (try dsimp only); omega) (by (try dsimp only); omega)) rfl rfl | exact seq_list (kp _ (by k_mem) (by (try dsimp only); omega) (by (try dsimp only); omega) (by (try dsimp only); omega)) | exact SeqIn.keeps (by assumption) st)); (case y7i => first | assumption | exact IntsAre.cons _ _ (IntsAre.cons _ _ IntsAre.nil)); (case y7n => first | (simp; omega) | simp | omega)); intro t9 h9 tk9 ok9 op9 od9 add9 F9 N9 O9 P9 S9 ne9; (try dsimp only at N9)) | ((with_reducible show wpAny _ _ (call (Value.ref 103) _) _ _ _); k_dflt (refine' iff_use ?y7B ?y7F ?y7X ?y7T ?y7N ?y7f ?y7k ?y7m1 ?y7m2 ?y7m3 ?y7U ?y7O ?y7po ?y7d ?y7u ?y7hs ?y7hz ?y7G ?_; (case y7B => k_asm); (case y7F => k_asm); (case y7X => k_asm); (case y7T => k_asm); (case y7N => k_asm); (case y7f => exact rfl); (case y7k => exact rfl); (case y7m1 => k_mem); (case y7m2 => k_mem); (case y7m3 => k_mem); (case y7U => (repeat' (first | refine' UpdT.one ?_ | refine' UpdT.two ?_ | refine' UpdT.three ?_ | (refine' UpdT.skip ?y8a ?y8b ?y8c ?_; (case y8a => ((try dsimp only); omega)); (case y8b => ((try dsimp only); omega)); (case y8c => ((try dsimp only); omega))) | exact UpdT.tail))); (case y7O => assumption); (case y7po => assumption); (case y7d => (dsimp only [Around.deeper, ar]; (refine Nat.lt_of_le_of_lt ?_ (by assumption)); simp)); (case y7u => (dsimp only [Around.deeper, ar]; (refine Nat.lt_of_le_of_lt ?_ (by assumption)); simp)); (case y7hs => assumption); (case y7hz => omega); (case y7G => (intro g₂ st kp; exact NetG.keeps (by assumption) st))); intro t9 h9 tk9 ok9 op9 od9 add9 F9 N9 O9 P9 S9 ne9; (try dsimp only at N9)) | fail "no line"); k_steps)
  exact hQ _ _ _ (Fr.keep (by assumption)) ⟨⟨_, rfl⟩, net_end (by assumption) (by k_mem) (by k_mem) (by k_mem) (by assumption) (by assumption) (by simp) (by intro p hp; repeat (first | exact hp | apply List.Mem.tail))⟩
theorem any_of_ctr (n : Nat) (hs : Small c n) (hz : n ≤ 870) (ga : Addr) (vs : List Value) (ns : List Int) (hi : IntsAre vs ns) (hn : ns.length ≤ 50) :
  Ctr w mean mg mb 75 10 90 [.ref a.net, .ref ga] (fun g h => NetPre w g h a tl c ∧ g.IsList ga (List.toArray vs))
    (fun g v _ h' => (∃ t, v = .int (anyOf c ns).2 t) ∧ NetPost w g h' a tl (anyOf c ns).1) := by
  rintro dp un gd fr base g s Q E C hd hu ⟨⟨hG, ⟨ok, op, od, g1, g2, g3, hO⟩, f1, f2, f3, hpool⟩, hP₀⟩ hQ
  obtain ⟨hinst, ⟨x1, x2, x3, x4, x5, x6, x7, hdict⟩, n1, n2, n3, lo⟩ := id hG
  have X := C.X
  have T := C.T
  have B := C.B
  have hP := Pool.start (a := a) hpool
  refine wpAny_call ?_
  k_dflt (refine' enter C ?k6 ?k7 ?k8 ?k9 ?kB ?_ ?c2 ?c3 ?c4 ?c5; (case k6 => k_is); (case k7 => k_is); (case k8 => omega); (case k9 => exact BindsTo.of_eq rfl); (case kB => exact locs rfl); (case c2 => exact rfl); (case c3 => exact rfl); (case c4 => exact rfl); (case c5 => decide))
  intro h₁ F K₁
  have N := news3 K₁ g1 g2 g3 f1 f2 f3
  (try dsimp only)
  (try k_fold)
  k_steps
  repeat' (refine Stop.out ?_; (try gn_on); (first | ((with_reducible show wpAny _ _ (call (Value.ref 70) _) _ _ _); k_dflt (refine' all_of_use ?y7B ?y7F ?y7X ?y7T ?y7N ?y7f ?y7k ?y7m1 ?y7m2 ?y7m3 ?y7U ?y7O ?y7po ?y7d ?y7u ?y7hs ?y7hz ?y7G ?y7q ?y7i ?y7n ?_; (case y7B => k_asm); (case y7F => k_asm); (case y7X => k_asm); (case y7T => k_asm); (case y7N => k_asm); (case y7f => exact rfl); (case y7k => exact rfl); (case y7m1 => k_mem); (case y7m2 => k_mem); (case y7m3 => k_mem); (case y7U => (repeat' (first | refine' UpdT.one ?_ | refine' UpdT.two ?_ | refine' UpdT.three ?_ | (refine' UpdT.skip ?y8a ?y8b ?y8c ?_; (case y8a => ((try dsimp only); omega)); (case y8b => ((try dsimp only); omega)); (case y8c => ((try dsimp only); omega))) | exact UpdT.tail))); (case y7O => assumption); (case y7po => assumption); (case y7d => (dsimp only [Around.deeper, ar]; (refine Nat.lt_of_le_of_lt ?_ (by assumption)); simp)); (case y7u => (dsimp only [Around.deeper, ar]; (refine Nat.lt_of_le_of_lt ?_ (by assumption)); simp)); (case y7hs => assumption); (case y7hz => omega); (case y7G => (intro g₂ st kp; exact NetG.keeps (by assumption) st)); (case y7q => (intro g₂ st kp; first | exact seq_tup (kp _ (by k_mem) (by (try dsimp only); omega) (by (try dsimp only); omega) (by (try dsimp only); omega)) rfl rfl | exact seq_list (kp _ (by k_mem) (by (try dsimp only); omega) (by (try dsimp only); omega) (by (try dsimp only); omega)) | exact SeqIn.keeps (by assumption) st)); (case y7i => first | assumption | exact IntsAre.cons _ _ (IntsAre.cons _ _ IntsAre.nil)); (case y7n => first | (simp; omega) | simp | omega)); intro t9 h9 tk9 ok9 op9 od9 add9 F9 N9 O9 P9 S9 ne9; (try dsimp only at N9)) | fail "no line"); k_steps)
  exact hQ _ _ _ (Fr.keep (by assumption)) ⟨⟨_, rfl⟩, net_end (by assumption) (by k_mem) (by k_mem) (by k_mem) (by assumption) (by assumption) (by simp) (by intro p hp; repeat (first | exact hp | apply List.Mem.tail))⟩
end
end Mine
end
-- text Meth4
section
open PySem PySem.W PySem.Calls PyProof.Rows
set_option Elab.async false
set_option maxRecDepth 100000
set_option linter.unusedVariables false
namespace Mine
section
variable {w : World} {mean : ExcName → Option Value} {mg mb : Str → Option Value} {base g : Heap} {dp un : Nat} {gd : Option (List Code)} {fr : List Env} {s : Shared} {a : NA} {tl : List (Addr × Obj)} {c : Circ}
    {A₀ : Around} {env : Env} {L : Addr} {m : Str → Option Value} {Q E : Value → Shared → Prop} {R news : List (Addr × Obj)} {G : Obj → Obj → Obj → List (Addr × Obj) → List (Addr × Obj)} {ok op od : Obj}
theorem unlike_use {x y : Int} {tx ty : Tok} {n : Nat}
    (B : Below A₀ base fr g) (F : Fr g L s.heap m) (X : (hd.heap_39 w.params).In g) (T : TT mean mg mb g) (N : News g L s.heap news) (hf : env.frame = some L) (hke : env.scope.kind = .function)
    (m1 : (a.ks, ok) ∈ news) (m2 : (a.ps, op) ∈ news) (m3 : (a.kn, od) ∈ news) (U : UpdT a.ks a.ps a.kn ok op od R news G) (O : NetObj w tl ok op od c) (po : Pool g a R tl)
    (hd' : dp + 10 < recursionLimit) (hu : un + 90 < cLine) (hs : Small c n) (hz : n ≤ 870)
    (hG : ∀ g₂ : Heap, g.StaysIn g₂ → (∀ p ∈ news, @Ne Nat p.1 a.ks → @Ne Nat p.1 a.ps → @Ne Nat p.1 a.kn → g₂.get? p.1 = some p.2) → NetG g₂ a)
    (k : NetK g L m w a R news tl G (n + 3) (unlike c x y) s Q) :
    wpAny (model PG w) (ar dp un gd (env :: fr)) (call (.ref 110) [.ref a.net, .int x tx, .int y ty]) Q E s :=
  use_netM (P₀ := fun _ => True) (unlike_ctr w mean mg mb a tl c n hs hz x y tx ty) B F X T N hf hke m1 m2 m3 U O po hd' hu (fun g₂ st kp => ⟨hG g₂ st kp, trivial⟩)
    fun t h' tk' ok' op' od' add F' N' O' P' hne => k t h' tk' ok' op' od' add F' N' O' P' (iffG_small hs x y) hne
theorem any_of_use {ga : Addr} {vs : List Value} {ns : List Int} {n : Nat}
    (B : Below A₀ base fr g) (F : Fr g L s.heap m) (X : (hd.heap_39 w.params).In g) (T : TT mean mg mb g) (N : News g L s.heap news) (hf : env.frame = some L) (hke : env.scope.kind = .function)
    (m1 : (a.ks, ok) ∈ news) (m2 : (a.ps, op) ∈ news) (m3 : (a.kn, od) ∈ news) (U : UpdT a.ks a.ps a.kn ok op od R news G) (O : NetObj w tl ok op od c) (po : Pool g a R tl)
    (hd' : dp + 10 < recursionLimit) (hu : un + 90 < cLine) (hs : Small c n) (hz : n ≤ 870)
    (hG : ∀ g₂ : Heap, g.StaysIn g₂ → (∀ p ∈ news, @Ne Nat p.1 a.ks → @Ne Nat p.1 a.ps → @Ne Nat p.1 a.kn → g₂.get? p.1 = some p.2) → NetG g₂ a)
    (hq : ∀ g₂ : Heap, g.StaysIn g₂ → (∀ p ∈ news, @Ne Nat p.1 a.ks → @Ne Nat p.1 a.ps → @Ne Nat p.1 a.kn → g₂.get? p.1 = some p.2) → g₂.IsList ga (List.toArray vs))
    (hi : IntsAre vs ns) (hn : ns.length ≤ 50) (k : NetK g L m w a R news tl G (n + 1) (anyOf c ns) s Q) :
    wpAny (model PG w) (ar dp un gd (env :: fr)) (call (.ref 75) [.ref a.net, .ref ga]) Q E s :=
  use_netM (P₀ := fun g => g.IsList ga (List.toArray vs)) (any_of_ctr w mean mg mb a tl c n hs hz ga vs ns hi hn) B F X T N hf hke m1 m2 m3 U O po hd' hu (fun g₂ st kp => ⟨hG g₂ st kp, hq g₂ st kp⟩)
    fun t h' tk' ok' op' od' add F' N' O' P' hne => k t h' tk' ok' op' od' add F' N' O' P' (allOf_small hs _) hne
theorem list_keeps {g₂ : Heap} {ga : Addr} {vs : Array Value} (h : g.IsList ga vs) (st : g.StaysIn g₂) : g₂.IsList ga vs := let ⟨o, ho, r⟩ := h; ⟨o, st _ _ ho, r⟩
end
end Mine
end
-- text Seqs2
section
open PySem PySem.W PySem.Calls PyProof.Rows
set_option Elab.async false
set_option maxRecDepth 100000
set_option linter.unusedVariables false
namespace Mine
noncomputable def TupAt (h : Heap) (t : Addr) (p : List Int) : Prop := ∃ o, h.get? t = some o ∧ TupObj p o
theorem TupAt.keeps {h h' : Heap} {t : Addr} {p : List Int} (x : TupAt h t p) (k : h.StaysIn h') : TupAt h' t p := let ⟨o, ho, r⟩ := x; ⟨o, k _ _ ho, r⟩
theorem TupAt.reads {h : Heap} {t : Addr} {p : List Int} (x : TupAt h t p) : Reads h (.ref t) (.tuple (p.map .int)) [] := by
  obtain ⟨o, ho, tt⟩ := x
  obtain ⟨ws, ht, hi⟩ := tt.isTup ho
  exact reads_newDataT ht (ke_carried hi)
theorem shaped_tup (p : List Int) : SeqAt.shaped (.tuple (p.map PyData.int)) = true := by
  simp [SeqAt.shaped, PyData.canLay0, PyData.depth, ke_canLayAll0, ke_depthAll]
theorem eqv_tup (p q : List Int) : PyData.eqv (.tuple (p.map PyData.int)) (.tuple (q.map PyData.int)) = decide (p = q) := by
  simp only [PyData.eqv, ked_eqvAll]
noncomputable def isB (b : Bool) : Value → Bool | .bool x => x == b | _ => false
theorem any_isB (bs : List Bool) (b : Bool) : (bs.map Value.bool).any (isB b) = bs.contains b := by
  induction bs with
  | nil => rfl
  | cons x r ih =>
    rw [List.map_cons, List.any_cons, ih, List.contains_cons]
    cases x <;> cases b <;> rfl
section
variable {w : World} {A : Around} {E : Value → Shared → Prop} {s : Shared} {g : Heap} {L l t u : Addr} {m : Str → Option Value} {p q : List Int}
theorem eq_tups {Q : Value → Shared → Prop} (ht : TupAt s.heap t p) (hu : TupAt s.heap u q) (hr : A.units + 64 < cLine) (k : Q (.bool (decide (p = q))) s) : wpAny (model PG w) A (compareOp .Eq (.ref t) (.ref u)) Q E s :=
  eq_dataH ht.reads hu.reads (shaped_tup p) (shaped_tup q) hr (by rw [eqv_tup]; exact k)
theorem ne_tups {Q : Value → Shared → Prop} (ht : TupAt s.heap t p) (hu : TupAt s.heap u q) (hr : A.units + 64 < cLine) (k : Q (.bool (!decide (p = q))) s) : wpAny (model PG w) A (compareOp .NotEq (.ref t) (.ref u)) Q E s :=
  ne_dataH ht.reads hu.reads (shaped_tup p) (shaped_tup q) hr (by rw [eqv_tup]; exact k)
theorem eqAt_tups (ht : TupAt s.heap t p) (hu : TupAt s.heap u q) (hr : A.units < cLine) : SeqAt.EqAt A s (.ref t) (.ref u) (decide (p = q)) := by
  intro prog w E Q h
  obtain ⟨o, ho, tt⟩ := ht
  obtain ⟨o', ho', tu⟩ := hu
  obtain ⟨ws, n, rfl, hi⟩ := tt
  obtain ⟨ws', n', rfl, hi'⟩ := tu
  exact wpAny_eqBool_tuple (knd := intKind prog w) hr ⟨_, _, n, ho, rfl, rfl, itemsAre_ints hi⟩ ⟨_, _, n', ho', rfl, rfl, itemsAre_ints hi'⟩ h
theorem parts_mem {tl : List (Addr × Obj)} {vs : List Value} {ps : List (List Int)} (h : PartsAre tl vs ps) (pool : ∀ p ∈ tl, s.heap.get? p.1 = some p.2) : ∀ y ∈ vs, ∃ u q, y = .ref u ∧ TupAt s.heap u q ∧ q ∈ ps := by
  induction h with
  | nil => intro y hy; cases hy
  | cons a b _ ih =>
    intro y hy
    rcases List.mem_cons.mp hy with rfl | hy
    · exact ⟨_, _, rfl, ⟨_, pool _ a, b⟩, .head _⟩
    · obtain ⟨u, q, e, hq, hm⟩ := ih y hy
      exact ⟨u, q, e, hq, .tail _ hm⟩
theorem TupAt.inj {h : Heap} (x : TupAt h t p) (y : TupAt h t q) : p = q := by
  obtain ⟨o, ho, ws, n, rfl, hi⟩ := x
  obtain ⟨o', ho', ws', n', rfl, hi'⟩ := y
  rw [ho] at ho'
  cases ho'
  have h1 := hi.nums
  have h2 := hi'.nums
  exact h1.symm.trans h2
theorem parts_any {tl : List (Addr × Obj)} {vs : List Value} {ps : List (List Int)} (h : PartsAre tl vs ps) (pool : ∀ p ∈ tl, s.heap.get? p.1 = some p.2) (e : Value → Bool) (he : ∀ u q, TupAt s.heap u q → e (.ref u) = decide (q = p)) : vs.any e = decide (p ∈ ps) := by
  induction h with
  | nil => simp
  | @cons t o p' vs ps a b _ ih =>
    rw [List.any_cons, ih, he t p' ⟨o, pool _ a, b⟩]
    by_cases hp : p' = p
    · subst hp; simp
    · have hp' : ¬ p = p' := fun e => hp e.symm
      simp [hp, hp']
/-- a tuple in a list of tuples -/
theorem in_tups {tl : List (Addr × Obj)} {vs : List Value} {ps : List (List Int)} {Q : Value → Shared → Prop} (hl : s.heap.IsList l (List.toArray vs)) (h : PartsAre tl vs ps) (pool : ∀ p ∈ tl, s.heap.get? p.1 = some p.2) (ht : TupAt s.heap t p) (hr : A.units + 1 < cLine)
    (k : Q (.bool (decide (p ∈ ps))) s) : wpAny (model PG w) A (compareOp .In (.ref t) (.ref l)) Q E s := by
  classical
  let e : Value → Bool := fun y => decide (∃ u q, y = .ref u ∧ TupAt s.heap u q ∧ q = p)
  have he : ∀ u q, TupAt s.heap u q → e (.ref u) = decide (q = p) := fun u q hq => by
    by_cases hp : q = p
    · subst hp
      exact (decide_eq_true ⟨u, q, rfl, hq, rfl⟩).trans (decide_eq_true rfl).symm
    · simp only [e]
      rw [decide_eq_false (fun hx => ?_), decide_eq_false hp]
      obtain ⟨u', q', e1, h1, h2⟩ := hx
      cases e1
      exact hp ((hq.inj h1).trans h2)
  refine SeqAt.in_listAt e hl (fun y hy => ?_) ?_
  · obtain ⟨u, q, rfl, hq, _⟩ := parts_mem h pool y (by simpa using hy)
    rw [he u q hq]
    exact eqAt_tups hq ht hr
  · have e1 : (List.toArray vs).any e = vs.any e := by simp
    rw [e1, parts_any h pool e he]
    exact k

/-- lists of bools -/
theorem in_bools {bs : List Bool} {b : Bool} {Q : Value → Shared → Prop} (hl : s.heap.IsList l (List.toArray (bs.map Value.bool))) (k : Q (.bool (bs.contains b)) s) : wpAny (model PG w) A (compareOp .In (.bool b) (.ref l)) Q E s := by
  refine SeqAt.in_listAt (isB b) hl (fun y hy => ?_) ?_
  · obtain ⟨x, _, rfl⟩ := List.mem_map.mp (by simpa using hy : y ∈ bs.map Value.bool)
    exact SeqAt.EqAt.bool_bool x b
  · have e1 : ((List.toArray (bs.map Value.bool)).any (isB b)) = bs.contains b := by
      rw [List.any_toArray, any_isB]
    rw [e1]; exact k
theorem notin_bools {bs : List Bool} {b : Bool} {Q : Value → Shared → Prop} (hl : s.heap.IsList l (List.toArray (bs.map Value.bool))) (k : Q (.bool (!bs.contains b)) s) : wpAny (model PG w) A (compareOp .NotIn (.bool b) (.ref l)) Q E s := by
  refine SeqAt.notIn_listAt (isB b) hl (fun y hy => ?_) ?_
  · obtain ⟨x, _, rfl⟩ := List.mem_map.mp (by simpa using hy : y ∈ bs.map Value.bool)
    exact SeqAt.EqAt.bool_bool x b
  · have e1 : ((List.toArray (bs.map Value.bool)).any (isB b)) = bs.contains b := by
      rw [List.any_toArray, any_isB]
    rw [e1]; exact k
theorem item_b {value slice : Expr} {bs : List Bool} {i : Int} {ti : Tok} {Q : Value → Shared → Prop} (hl : s.heap.IsList l (List.toArray (bs.map Value.bool))) (h0 : 0 ≤ i) (hhi : i < 2 ^ 62) (hlt : i.toNat < bs.length) (k : Q (.bool (bs.getD i.toNat false)) s)
    (hs : subscripted slice false (.ref l) (.int i ti) = operate [.ref l, .int i ti] (getItem (.ref l) (.int i ti)) := by with_unfolding_all rfl) :
    wpAny (model PG w) A (subscriptTail value slice (.ref l) (.int i ti)) Q E s := by
  have hv : (List.toArray (bs.map Value.bool))[i.toNat]? = some (.bool (bs.getD i.toNat false)) := by
    simp [hlt]
  exact tail_any hl.typeIs slot_list_getitem.lookup (wpAny_getItem_list hl h0 (by omega) hv k) hs
end
end Mine
end
-- text D10
section
open PySem PySem.W PySem.Calls PyProof.Rows
set_option Elab.async false
set_option maxRecDepth 100000
set_option maxHeartbeats 8000000
set_option linter.unusedVariables false
namespace Mine
local macro_rules | `(tactic| walk_at "p0") => `(tactic| skip)
local macro_rules | `(tactic| walk_at "p1") => `(tactic| skip)
theorem D10_fill (w : World) : (hd.heap_39 w.params = hd.heap_39 w.params ∧ PySem.Challenge.rw_nu0265_01 = PySem.Challenge.rw_nu0265_01) := by
  k_fill
  exact ⟨rfl, rfl⟩
noncomputable def saidF (k : Int) (bs : List Bool) : Bool :=
  if k = 0 then !bs.contains false else if k = 2 then !bs.contains false else if k = 1 then bs.contains true else if k = 3 then bs.contains true
  else if k = 4 then (if bs.getD 1 false then true else !bs.getD 0 false) else if k = 5 then bs.getD 0 false == bs.getD 1 false else if k = 6 then (bs.getD 0 false == bs.getD 1 false) == false
  else if bs.getD 0 false then bs.getD 1 false else bs.getD 2 false
local macro_rules | `(tactic| walk_at "compareOp NotIn bool ref") => `(tactic| (refine' notin_bools (by assumption) ?_))
local macro_rules | `(tactic| walk_at "compareOp In bool ref") => `(tactic| (refine' in_bools (by assumption) ?_))
local macro_rules | `(tactic| walk_at "subscriptTail") => `(tactic| refine Stop.to 1 ?_)
section
variable (w : World) (mean : ExcName → Option Value) (mg mb : Str → Option Value)
theorem said_ctr (kind : Int) (tk₀ : Tok) (h0 : 0 ≤ kind) (h8 : kind < 8) (ga : Addr) (bs : List Bool) (hn : bs.length ≤ 10) (h2 : 2 ≤ kind → 2 ≤ bs.length) (h7 : kind = 7 → 3 ≤ bs.length) :
  Ctr w mean mg mb 152 2 10 [.int kind tk₀, .ref ga] (fun g _ => g.IsList ga (List.toArray (bs.map Value.bool)))
    (fun g v _ h' => v = .bool (saidF kind bs)) := by
  rintro dp un gd fr base g s Q E C hd hu hl hQ
  have X := C.X
  have T := C.T
  have B := C.B
  refine wpAny_call ?_
  k_dflt (refine' enter C ?k6 ?k7 ?k8 ?k9 ?kB ?_ ?c2 ?c3 ?c4 ?c5; (case k6 => k_is); (case k7 => k_is); (case k8 => omega); (case k9 => exact BindsTo.of_eq rfl); (case kB => exact locs rfl); (case c2 => exact rfl); (case c3 => exact rfl); (case c4 => exact rfl); (case c5 => decide))
  intro h₁ F K₁
  have N : News g s.heap.objs.size h₁ [] := News.nil
  have hl1 : h₁.IsList ga (List.toArray (bs.map Value.bool)) := list_keeps hl F.keep
  (try dsimp only)
  (try k_fold)
  (k_steps; (repeat' ((first | (refine Stop.out (n := 1) ?_; (first | (((with_reducible show wpAny _ _ (subscriptTail _ _ (Value.ref _) (Value.int _ _)) _ _ _); (k_dflt (refine' item_b (by assumption) ?y9a ?y9b ?y9c ?_; (case y9a => omega); (case y9b => omega); (case y9c => omega)))))))); k_steps)))
  all_goals (try dsimp only)
  all_goals (refine hQ _ _ _ (Fr.keep (by assumption)) ?_; unfold saidF; (repeat (first | rw [if_pos (by assumption)] | rw [if_neg (by assumption)])); try rfl)
  all_goals dsimp only
  all_goals (refine congrArg Value.bool ?_)
  all_goals (try have e0 : Int.toNat 0 = 0 := rfl)
  all_goals (try have e1 : Int.toNat 1 = 1 := rfl)
  all_goals (try have e2 : Int.toNat 2 = 2 := rfl)
  all_goals simp_all
end
end Mine
end
-- text D11
section
open PySem PySem.W PySem.Calls PyProof.Rows
set_option Elab.async false
set_option maxRecDepth 100000
set_option maxHeartbeats 8000000
set_option linter.unusedVariables false
namespace Mine
local macro_rules | `(tactic| walk_at "p0") => `(tactic| skip)
local macro_rules | `(tactic| walk_at "p1") => `(tactic| skip)
local macro_rules | `(tactic| walk_at "p2") => `(tactic| skip)
local macro_rules | `(tactic| walk_at "p3") => `(tactic| skip)
local macro_rules | `(tactic| walk_at "p4") => `(tactic| skip)
theorem D11_fill (w : World) : (hd.heap_39 w.params = hd.heap_39 w.params ∧ PySem.Challenge.rw_nu0265_01 = PySem.Challenge.rw_nu0265_01) := by
  k_fill
  exact ⟨rfl, rfl⟩
inductive RowsAre (h : Heap) : List Value → List (List Bool) → Prop
  | nil : RowsAre h [] []
  | cons {r : Addr} {bs : List Bool} {vs bss} : h.IsList r (List.toArray (bs.map Value.bool)) → RowsAre h vs bss → RowsAre h (.ref r :: vs) (bs :: bss)
theorem RowsAre.keeps {h h' : Heap} {vs bss} (x : RowsAre h vs bss) (k : h.StaysIn h') : RowsAre h' vs bss := by
  induction x with
  | nil => exact .nil
  | cons a _ ih => exact .cons (list_keeps a k) ih
theorem RowsAre.length {h : Heap} {vs bss} (x : RowsAre h vs bss) : vs.length = bss.length := by
  induction x with
  | nil => rfl
  | cons a _ ih => simp [ih]
theorem RowsAre.append {h : Heap} {vs bss us css} (x : RowsAre h vs bss) (y : RowsAre h us css) : RowsAre h (vs ++ us) (bss ++ css) := by
  induction x with
  | nil => exact y
  | cons a _ ih => exact .cons a ih
theorem RowsAre.at {h : Heap} {vs bss} (x : RowsAre h vs bss) {i : Nat} {v : Value} (hv : vs[i]? = some v) : ∃ r bs, v = .ref r ∧ h.IsList r (List.toArray (bs.map Value.bool)) ∧ bss[i]? = some bs := by
  induction x generalizing i with
  | nil => simp at hv
  | @cons r bs _ _ a _ ih =>
    cases i with
    | zero => simp at hv; exact ⟨r, bs, hv.symm, a, rfl⟩
    | succ i => simpa using ih (by simpa using hv)
noncomputable def truthF (ts : List (List Bool)) (g : Int) (row : Nat) : Bool := (ts.getD (ab g).toNat []).getD row false == decide (0 < g)
section
variable (w : World) (mean : ExcName → Option Value) (mg mb : Str → Option Value)
local macro_rules | `(tactic| walk_at "subscriptTail") => `(tactic| refine Stop.to 1 ?_)
theorem truth_ctr (tb : Addr) (rs : List Value) (ts : List (List Bool)) (gg : Int) (tg : Tok) (row : Nat) (tr : Tok) (hts : ts.length ≤ 1000) (h1 : -1000 ≤ gg) (h2 : gg ≤ 1000) (hlt : (ab gg).toNat < ts.length) (hr : row ≤ 100) (hrow : row < (ts.getD (ab gg).toNat []).length) :
  Ctr w mean mg mb 176 2 10 [.ref tb, .int gg tg, .int (row : Int) tr] (fun g _ => g.IsList tb (List.toArray rs) ∧ RowsAre g rs ts)
    (fun g v _ h' => v = .bool (truthF ts gg row)) := by
  rintro dp un gd fr base g s Q E C hd hu ⟨hl, hrs⟩ hQ
  have X := C.X
  have T := C.T
  have B := C.B
  have hlen := hrs.length
  unfold ab at hlt
  refine wpAny_call ?_
  k_dflt (refine' enter C ?k6 ?k7 ?k8 ?k9 ?kB ?_ ?c2 ?c3 ?c4 ?c5; (case k6 => k_is); (case k7 => k_is); (case k8 => omega); (case k9 => exact BindsTo.of_eq rfl); (case kB => exact locs rfl); (case c2 => exact rfl); (case c3 => exact rfl); (case c4 => exact rfl); (case c5 => decide))
  intro h₁ F K₁
  have N : News g s.heap.objs.size h₁ [] := News.nil
  (try dsimp only)
  (try k_fold)
  (k_steps; (repeat' ((first | (refine Stop.out (n := 1) ?_; (first | (((with_reducible show wpAny _ _ (subscriptTail _ _ (Value.ref _) (Value.int _ _)) _ _ _); first | (k_dflt (refine' item_g (by k_asm) (by assumption) ?y9a ?y9b ?y9c ?_; (case y9a => omega); (case y9b => omega); (case y9c => omega)); intro v9q hv9q; refine Stop.mk ?_) | (k_dflt (refine' item_b (by assumption) ?y9a ?y9b ?y9c ?_; (case y9a => omega); (case y9b => omega); (case y9c => omega)))))))); k_steps)))
  refine Stop.out ?_
  obtain ⟨r, bs, rfl, hb, e⟩ := hrs.at hv9q
  have hbs : ts.getD (ab gg).toNat [] = bs := by unfold ab; rw [List.getD_eq_getElem?_getD, e]; rfl
  rw [hbs] at hrow
  have hl1 : h₁.IsList r (List.toArray (bs.map Value.bool)) := list_keeps hb F.keep
  (try dsimp only)
  (try k_fold)
  (k_steps; (repeat' ((first | (refine Stop.out (n := 1) ?_; (first | (((with_reducible show wpAny _ _ (subscriptTail _ _ (Value.ref _) (Value.int _ _)) _ _ _); first | (k_dflt (refine' item_g (by k_asm) (by assumption) ?y9a ?y9b ?y9c ?_; (case y9a => omega); (case y9b => omega); (case y9c => omega)); intro v9q hv9q; refine Stop.mk ?_) | (k_dflt (refine' item_b (by assumption) ?y9a ?y9b ?y9c ?_; (case y9a => omega); (case y9b => omega); (case y9c => omega)))))))); k_steps)))
  all_goals (try dsimp only)
  all_goals (refine hQ _ _ _ (Fr.keep (by assumption)) ?_; unfold truthF; rw [hbs]; try rfl)
end
end Mine
end
-- text D12
section
open PySem PySem.W PySem.Calls PyProof.Rows
set_option Elab.async false
set_option maxRecDepth 100000
set_option maxHeartbeats 8000000
set_option linter.unusedVariables false
namespace Mine
theorem D12_fill (w : World) : (hd.heap_39 w.params = hd.heap_39 w.params ∧ PySem.Challenge.rw_nu0265_01 = PySem.Challenge.rw_nu0265_01) := by
  k_fill
  exact ⟨rfl, rfl⟩
noncomputable def againF (k : Int) (ns : List Int) : List Int := if k < 2 then ns.reverse ++ ns.take 1 else if k = 2 ∨ k = 3 ∨ k = 5 ∨ k = 6 then ns.reverse else ns
section
variable (w : World) (mean : ExcName → Option Value) (mg mb : Str → Option Value)
theorem again_ctr (kind : Int) (tk₀ : Tok) (h0 : 0 ≤ kind) (h8 : kind < 8) (ga : Addr) (vs : List Value) (ns : List Int) (hi : IntsAre vs ns) (hn : ns.length ≤ 10) :
  Ctr w mean mg mb 169 2 20 [.int kind tk₀, .ref ga] (fun g _ => g.IsList ga (List.toArray vs))
    (fun g v _ h' => ∃ l ws, v = .ref l ∧ h'.IsList l (List.toArray ws) ∧ IntsAre ws (againF kind ns) ∧ (g.get? l = none ∨ l = ga)) := by
  rintro dp un gd fr base g s Q E C hd hu hl hQ
  have X := C.X
  have T := C.T
  have B := C.B
  have hlen := hi.length
  refine wpAny_call ?_
  k_dflt (refine' enter C ?k6 ?k7 ?k8 ?k9 ?kB ?_ ?c2 ?c3 ?c4 ?c5; (case k6 => k_is); (case k7 => k_is); (case k8 => omega); (case k9 => exact BindsTo.of_eq rfl); (case kB => exact locs rfl); (case c2 => exact rfl); (case c3 => exact rfl); (case c4 => exact rfl); (case c5 => decide))
  intro h₁ F K₁
  have N : News g s.heap.objs.size h₁ [] := News.nil
  (try dsimp only)
  (try k_fold)
  k_steps
  · (try dsimp only)
    rename_i h9 F9 N9 hI9 l9
    refine hQ _ _ _ (Fr.keep F9) ⟨_, _, rfl, ⟨_, N9.get (.head _), rfl, _, rfl⟩, ?_, .inl (N9.fresh (.head _))⟩
    unfold againF; rw [if_pos (by assumption)]; exact hI9
  · (try dsimp only)
    rename_i ha D9 ws9 h9 F9 N9 hI9 hC9 l9
    refine hQ _ _ _ (Fr.keep F9) ⟨_, _, rfl, ⟨_, N9.get (.head _), rfl, _, rfl⟩, ?_, .inl (N9.fresh (.head _))⟩
    unfold againF; rw [if_neg (by assumption), if_pos (by simp at ha; omega)]; exact hI9
  · (try dsimp only)
    rename_i ha
    refine hQ _ _ _ (Fr.keep (by assumption)) ⟨_, _, rfl, list_keeps hl (Fr.keep (by assumption)), ?_, .inr rfl⟩
    unfold againF; rw [if_neg (by assumption), if_neg (by simp at ha; omega)]; exact hi
end
end Mine
end
-- text SetA
section
open PySem PySem.W PySem.Calls PyProof.Rows
set_option Elab.async false
set_option maxRecDepth 100000
set_option linter.unusedVariables false
namespace Mine
noncomputable def subs : List Nat → List (List Nat)
  | [] => [[]]
  | x :: r => (subs r).map (x :: ·) ++ subs r
noncomputable def allNeat (k : Nat) : List (List Nat) := (subs (List.range 8)).filter fun l => l.length ≤ k
noncomputable def emptyAt (p : Array Nat) (j : Nat) : Bool := !(p[SetTable.below p j]? == some j)
noncomputable def seek (p : Array Nat) : Nat → Nat → Nat → Option Nat
  | 0, _, _ => none
  | f + 1, i, pt => if emptyAt p i then some i else seek p f ((i * 5 + 1 + pt / 32) % 8) (pt / 32)
noncomputable def slotAt (l : List Nat) : Nat → Nat
  | 0 => 0
  | i + 1 => l.getD i 0 + 1
theorem chk_ins : ((allNeat 3).all fun l => (List.range 8).all fun j => !emptyAt l.toArray j || (allNeat 4).contains (l.take (SetTable.below l.toArray j) ++ j :: l.drop (SetTable.below l.toArray j))) = true := by decide +kernel
theorem chk_seek : ((allNeat 3).all fun l => (List.range 8).all fun i => match seek l.toArray 10 i 0 with | some j => decide (j < 8) && emptyAt l.toArray j | none => false) = true := by decide +kernel
theorem chk_slot : ((allNeat 4).all fun l => (List.range (l.length + 1)).all fun i => SetTable.below l.toArray (slotAt l i) == i) = true := by decide +kernel
end Mine
end
-- text SetB
section
open PySem PySem.W PySem.Calls PyProof.Rows
set_option Elab.async false
set_option maxRecDepth 100000
set_option linter.unusedVariables false
namespace Mine
theorem mem_allNeat_len {l : List Nat} {k : Nat} (h : l ∈ allNeat k) : l.length ≤ k := by
  unfold allNeat at h
  simpa using (List.mem_filter.mp h).2
theorem allNeat_mono {l : List Nat} {k k' : Nat} (h : l ∈ allNeat k) (hl : l.length ≤ k') : l ∈ allNeat k' := by
  unfold allNeat at h ⊢
  exact List.mem_filter.mpr ⟨(List.mem_filter.mp h).1, by simpa using hl⟩
theorem neat_ins {l : List Nat} {j : Nat} (h : l ∈ allNeat 3) (hj : j < 8) (he : emptyAt l.toArray j = true) : l.take (SetTable.below l.toArray j) ++ j :: l.drop (SetTable.below l.toArray j) ∈ allNeat 4 := by
  have := List.all_eq_true.mp (List.all_eq_true.mp chk_ins l h) j (List.mem_range.mpr hj)
  rw [he] at this
  simpa using this
theorem neat_seek0 {l : List Nat} {i : Nat} (h : l ∈ allNeat 3) (hi : i < 8) : ∃ j, seek l.toArray 10 i 0 = some j ∧ j < 8 ∧ emptyAt l.toArray j = true := by
  have := List.all_eq_true.mp (List.all_eq_true.mp chk_seek l h) i (List.mem_range.mpr hi)
  split at this
  · rename_i j hj
    simp only [Bool.and_eq_true, decide_eq_true_eq] at this
    exact ⟨j, hj, this.1, this.2⟩
  · cases this
theorem neat_slot {l : List Nat} {i : Nat} (h : l ∈ allNeat 4) (hi : i ≤ l.length) : SetTable.below l.toArray (slotAt l i) = i := by
  have := List.all_eq_true.mp (List.all_eq_true.mp chk_slot l h) i (List.mem_range.mpr (Nat.lt_succ_of_le hi))
  simpa using this
theorem seek_more (p : Array Nat) : ∀ (f i pt j : Nat), seek p f i pt = some j → seek p (f + 1) i pt = some j
  | 0, _, _, _, h => by simp [seek] at h
  | f + 1, i, pt, j, h => by
    unfold seek at h ⊢
    by_cases he : emptyAt p i = true
    · rw [if_pos he] at h ⊢; exact h
    · rw [if_neg he] at h ⊢; exact seek_more p f _ _ j h
theorem seek_add (p : Array Nat) (f i pt j : Nat) (h : seek p f i pt = some j) : ∀ d, seek p (f + d) i pt = some j
  | 0 => h
  | d + 1 => seek_more p _ _ _ _ (seek_add p f i pt j h d)
theorem seek_found {l : List Nat} (h : l ∈ allNeat 3) : ∀ (k f i pt : Nat), pt < 32 ^ k → k + 10 ≤ f → i < 8 → ∃ j, seek l.toArray f i pt = some j ∧ j < 8 ∧ emptyAt l.toArray j = true
  | 0, f, i, pt, hp, hf, hi => by
    have e : pt = 0 := by simpa using hp
    subst e
    obtain ⟨j, h1, h2⟩ := neat_seek0 h hi
    have := seek_add _ _ _ _ _ h1 (f - 10)
    rw [show 10 + (f - 10) = f by omega] at this
    exact ⟨j, this, h2⟩
  | k + 1, f + 1, i, pt, hp, hf, hi => by
    unfold seek
    by_cases he : emptyAt l.toArray i = true
    · rw [if_pos he]; exact ⟨i, rfl, hi, he⟩
    · rw [if_neg he]
      exact seek_found h k f _ _ (Nat.div_lt_of_lt_mul (by rw [Nat.pow_succ, Nat.mul_comm] at hp; exact hp)) (by omega) (Nat.mod_lt _ (by decide))
theorem slot_full {t : SetTable} {i : Nat} (h : emptyAt t.place i = false) : t.slot i = .live (SetTable.below t.place i) := by
  unfold emptyAt at h
  unfold SetTable.slot
  have e : (t.place[SetTable.below t.place i]? == some i) = true := by simpa using h
  dsimp only
  rw [if_pos e]
theorem slot_empty {t : SetTable} {i : Nat} (hd : t.dummies = #[]) (h : emptyAt t.place i = true) : t.slot i = .empty := by
  unfold emptyAt at h
  unfold SetTable.slot
  have e : ¬ (t.place[SetTable.below t.place i]? == some i) = true := by
    intro q; rw [q] at h; cases h
  have hh : ¬ SetTable.has t.dummies i = true := by rw [hd]; exact Bool.noConfusion
  dsimp only
  rw [if_neg e, if_neg hh]
theorem go_seek {t : SetTable} {h : Int} (hm : t.mask = 7) (hd : t.dummies = #[]) : ∀ (f i pt : Nat), SetTable.probe.go t (fun _ => h + 1) h f { j := i, more := 0, i := i, perturb := pt, dummy := none } = (seek t.place f i pt).map fun j => .empty j none
  | 0, _, _ => rfl
  | f + 1, i, pt => by
    unfold SetTable.probe.go seek
    have hne : ¬ (h + 1 == h) = true := by simp; omega
    cases hb : emptyAt t.place i with
    | false =>
      rw [slot_full hb]
      dsimp only
      rw [if_neg hne, if_neg Bool.noConfusion]
      have ih := go_seek (h := h) hm hd f ((i * 5 + 1 + pt / 32) % 8) (pt / 32)
      rw [← ih]
      have hr : SetTable.runEnd 7 ((i * 5 + 1 + pt / 32) % 8) - (i * 5 + 1 + pt / 32) % 8 = 0 := by
        unfold SetTable.runEnd; split <;> omega
      simp [SetTable.advance, SetTable.leap, hm, hr]
    | true =>
      rw [slot_empty hd hb]
      dsimp only
      rw [if_pos rfl]
      rfl
theorem free_slot {t : SetTable} {h : Int} (hm : t.mask = 7) (hd : t.dummies = #[]) (hp : t.place.toList ∈ allNeat 3) : ∃ j, t.freeSlot h = some (j, false) ∧ j < 8 ∧ emptyAt t.place j = true := by
  have e : t.probe (fun _ => h + 1) h (t.probeStart h) = (seek t.place 220 (SetTable.bits h % 8) (SetTable.bits h)).map fun j => .empty j none := by
    unfold SetTable.probe SetTable.probeStart
    rw [← go_seek (h := h) hm hd]
    have h8 : SetTable.bits h % 8 < 8 := Nat.mod_lt _ (by decide)
    simp [hm, SetTable.runEnd, SetTable.turns]
  obtain ⟨j, h1, h2, h3⟩ := seek_found (l := t.place.toList) hp 13 220 (SetTable.bits h % 8) (SetTable.bits h) (by
      unfold SetTable.bits
      have : h % (2 ^ 64 : Int) < 2 ^ 64 := Int.emod_lt_of_pos _ (by decide)
      have h0 : 0 ≤ h % (2 ^ 64 : Int) := Int.emod_nonneg _ (by decide)
      omega) (by omega) (Nat.mod_lt _ (by decide))
  rw [Array.toArray_toList] at h1 h3
  refine ⟨j, ?_, h2, h3⟩
  unfold SetTable.freeSlot
  rw [e, h1]
  rfl

structure NeatSet (w : World) (o : Obj) (es : Array (Int × Value)) (ep : Nat) (t : SetTable) (σ : List Int) : Prop where
  ex : o.ExactSet
  data : o.data = .set es ep t
  el : ElemsOf (intKind PG w) es.toList
  vals : ∃ ks, IntsAre (es.toList.map (·.2)) ks ∧ ks.Perm σ
  mask : t.mask = 7
  dum : t.dummies = #[]
  plain : t.plain = true
  led : w.params.followText "set-order" = false → t.led = true
  place : t.place.toList ∈ allNeat 4
  size : t.place.size = es.size

theorem lay_new {t : SetTable} {es : Array (Int × Value)} {h : Int} {x : Value} (hm : t.mask = 7) (hd : t.dummies = #[]) (hp : t.place.toList ∈ allNeat 3) (hz : t.place.size = es.size) :
    ∃ p place', layNew t es h x = (SetTable.insertAt es p (h, x), { t with place := place' }, false, false) ∧ place'.toList ∈ allNeat 4 ∧ place'.size = es.size + 1 := by
  obtain ⟨j, hf, hj, he⟩ := free_slot (h := h) hm hd hp
  have hh : SetTable.has t.dummies j = false := by rw [hd]; rfl
  refine ⟨SetTable.below t.place j, SetTable.insertAt t.place (SetTable.below t.place j) j, ?_, ?_, ?_⟩
  · have hs1 : (SetTable.insertAt es (SetTable.below t.place j) (h, x)).size = es.size + 1 := by
      have := (SetTable.insertAt_perm es (SetTable.below t.place j) (h, x)).length_eq
      simpa using this
    have hs2 : (SetTable.insertAt t.place (SetTable.below t.place j) j).size = es.size + 1 := by
      have := (SetTable.insertAt_perm t.place (SetTable.below t.place j) j).length_eq
      simp at this; omega
    have hl := mem_allNeat_len hp
    simp at hl
    have hput : t.put j = ({ t with place := SetTable.insertAt t.place (SetTable.below t.place j) j }, SetTable.below t.place j) := by
      unfold SetTable.put; rw [if_neg (by rw [hh]; exact Bool.noConfusion)]
    have hfit : SetTable.fits { t with place := SetTable.insertAt t.place (SetTable.below t.place j) j } (es.size + 1) = true := by
      unfold SetTable.fits SetTable.fill
      simp only [hs2, hd, hm]
      simp; omega
    unfold layNew
    rw [hf]
    dsimp only
    rw [hput]
    dsimp only
    unfold SetTable.orStandIn
    rw [hs1, if_pos hfit, hfit]
    rfl
  · rw [SetTable.toList_insertAt]
    have := neat_ins (j := j) hp hj (by rw [Array.toArray_toList]; exact he)
    rw [Array.toArray_toList] at this
    exact this
  · have := (SetTable.insertAt_perm t.place (SetTable.below t.place j) j).length_eq
    simp at this; omega
end Mine
end
-- text SetC
section
open PySem PySem.W PySem.Calls PyProof.Rows
set_option Elab.async false
set_option maxRecDepth 100000
set_option linter.unusedVariables false
namespace Mine
section
variable {w : World} {A : Around} {E : Value → Shared → Prop} {s : Shared} {a : Addr} {o : Obj} {es : Array (Int × Value)} {ep : Nat} {t : SetTable} {σ : List Int}
theorem is_in {vs : List Value} {ks : List Int} {k : Int} (h : IntsAre vs ks) : (∃ v ∈ vs, (intKind PG w).is k v = true) ↔ k ∈ ks := by
  induction h with
  | nil => simp
  | cons n t hr ih =>
    rw [List.mem_cons, ← ih]
    constructor
    · rintro ⟨v, hv, hk⟩
      rcases List.mem_cons.mp hv with rfl | hv
      · exact .inl ((intKind PG w).inj _ _ _ hk (intKind_is _ _ _ _))
      · exact .inr ⟨v, hv, hk⟩
    · rintro (rfl | ⟨v, hv, hk⟩)
      · exact ⟨_, .head _, intKind_is _ _ _ _⟩
      · exact ⟨v, .tail _ hv, hk⟩
theorem NeatSet.len (H : NeatSet w o es ep t σ) : es.size = σ.length := by
  obtain ⟨ks, h1, h2⟩ := H.vals
  have := h1.length
  have := h2.length_eq
  simp at *
  omega
theorem NeatSet.le4 (H : NeatSet w o es ep t σ) : es.size ≤ 4 := by
  have := mem_allNeat_len H.place
  have := H.size
  simp at *
  omega
theorem NeatSet.fits (H : NeatSet w o es ep t σ) : t.fits es.size = true := by
  have := H.le4
  unfold SetTable.fits SetTable.fill
  simp only [H.size, H.dum, H.mask]
  simp
  omega
theorem NeatSet.iff (H : NeatSet w o es ep t σ) {k : Int} : (∃ e ∈ es.toList, (intKind PG w).is k e.2 = true) ↔ k ∈ σ := by
  obtain ⟨ks, h1, h2⟩ := H.vals
  rw [← h2.mem_iff, ← is_in (w := w) h1]
  constructor
  · rintro ⟨e, he, h⟩; exact ⟨e.2, List.mem_map_of_mem he, h⟩
  · rintro ⟨v, hv, h⟩; obtain ⟨e, he, rfl⟩ := List.mem_map.mp hv; exact ⟨e, he, h⟩
theorem dedup_new {k : Int} (h : k ∉ σ) : step_dedup σ k = σ ++ [k] := by
  unfold step_dedup; rw [if_neg]; simp only [List.any_eq_true, beq_iff_eq]; rintro ⟨x, hx, rfl⟩; exact h hx
theorem dedup_old {k : Int} (h : k ∈ σ) : step_dedup σ k = σ := by
  unfold step_dedup; rw [if_pos]; simp only [List.any_eq_true, beq_iff_eq]; exact ⟨k, h, rfl⟩
theorem neat_add {k : Int} {tk : Tok} {Q : Bool → Shared → Prop} (ho : s.heap.get? a = some o) (H : NeatSet w o es ep t σ) (hr : k ∉ σ → σ.length ≤ 3)
    (hQ : ∀ b h' o' es' ep' t', Heap.SameBut a s.heap h' → h'.get? a = some o' → NeatSet w o' es' ep' t' (step_dedup σ k) → Q b { s with heap := h' }) :
    wpAny (model PG w) A (setAddHashed a (.int k tk) ((intKind PG w).hash k)) Q E s := by
  have h4 := H.le4
  have hsc : Value.scannable (.int k tk) = true := rfl
  unfold setAddHashed setAddHashedIn
  refine wpAny_holding (wpAny_bind (wpAny_setState_of ho H.data H.fits ?_))
  dsimp only
  rw [byScan_of hsc (by unfold scanBound; omega) H.el, if_pos rfl]
  unfold setAddByScan
  refine wpAny_bind (wpAny_bind (wpAny_rule (wpAny_bind (wpAny_setScan_of (intKind_is _ _ _ _) ho H.data H.fits H.el ?_))))
  cases hf : List.findIdx? (fun e => (intKind PG w).is k e.2) es.toList with
  | some j =>
    obtain ⟨hj, hp, _⟩ := List.findIdx?_eq_some_iff_getElem.mp hf
    have hk : k ∈ σ := H.iff.mp ⟨_, List.getElem_mem hj, hp⟩
    refine wpAny_pure (wpAny_pure ?_)
    have e : s = { s with heap := s.heap } := by cases s; rfl
    rw [e]
    exact hQ _ _ o es ep t (Heap.SameBut.refl a s.heap) ho (by rw [dedup_old hk]; exact H)
  | none =>
    have hk : k ∉ σ := fun q => by
      obtain ⟨e, he, h⟩ := H.iff.mpr q
      have := List.findIdx?_eq_none_iff.mp hf e he
      rw [h] at this; cases this
    have h3 := hr hk
    have hz := H.len
    obtain ⟨p, place', hL, hpl, hps⟩ := lay_new (h := (intKind PG w).hash k) (x := .int k tk) H.mask H.dum (allNeat_mono H.place (by have := H.size; simp; omega)) H.size
    have hperm := SetTable.insertAt_perm es p ((intKind PG w).hash k, Value.int k tk)
    rw [Array.toList_push] at hperm
    dsimp only
    rw [hL]
    dsimp only
    refine wpAny_bind (wpAny_pure ?_)
    rw [if_pos H.plain, hashByValue_scannable 8 hsc]
    refine wpAny_bind (wpAny_pure ?_)
    have hpk : plainKind (Value.int k tk) = true := rfl
    rw [hpk]
    rw [if_pos rfl]
    have hs1 : (SetTable.insertAt es p ((intKind PG w).hash k, Value.int k tk)).size = es.size + 1 := by
      have := hperm.length_eq
      simpa using this
    refine wpAny_bind (wpAny_storeSet_of ho H.data ?_ (by rw [hs1, sizeLine_eq]; omega))
    have hnf : SetTable.tooFull { t with place := place' } = false := by
      unfold SetTable.tooFull SetTable.fill
      simp only [H.dum, H.mask, hps]
      simp; omega
    rw [hnf]
    rw [if_neg (by simp)]
    refine wpAny_pure ?_
    have hg : (s.heap.update a (Obj.putSet (SetTable.insertAt es p ((intKind PG w).hash k, Value.int k tk)) { t with place := place' })).get? a = some { o with data := .set (SetTable.insertAt es p ((intKind PG w).hash k, Value.int k tk)) (ep + 1) { t with place := place' } } := by
      have := Heap.get?_update_self (Obj.putSet (SetTable.insertAt es p ((intKind PG w).hash k, Value.int k tk)) { t with place := place' }) ho (by rw [putSet_of _ _ H.data]; rfl)
      rw [putSet_of _ _ H.data] at this; exact this
    obtain ⟨ks, v1, v2⟩ := H.vals
    refine wpAny_pure (hQ _ _ _ _ _ _ (Heap.SameBut.update s.heap a _) hg ⟨H.ex, rfl, (H.el.push (intKind_is _ _ _ _) hsc).perm hperm, ?_, H.mask, H.dum, H.plain, H.led, hpl, by rw [hps, hs1]⟩)
    rw [SetTable.toList_insertAt, dedup_new hk, List.map_append, List.map_cons]
    refine ⟨ks.take p ++ k :: ks.drop p, ?_, ?_⟩
    · rw [List.map_take, List.map_drop]
      exact IntsAre.append (IntsAre.take v1 p) (.cons _ _ (IntsAre.drop v1 p))
    · refine List.perm_middle.trans ?_
      rw [List.take_append_drop]
      exact (v2.cons k).trans (List.perm_append_singleton k σ).symm
end
end Mine
end
-- text SetD
section
open PySem PySem.W PySem.Calls PyProof.Rows
set_option Elab.async false
set_option maxRecDepth 1000000
set_option maxHeartbeats 4000000
set_option linter.unusedVariables false
namespace Mine
noncomputable def NeatAt (w : World) (h : Heap) (a : Addr) (σ : List Int) : Prop := ∃ o es ep t, h.get? a = some o ∧ NeatSet w o es ep t σ
section
variable {w : World} {A : Around} {E : Value → Shared → Prop} {R : Result → Shared → Prop} {I : Addr} {fp wr : List Addr} {n : Nat} {P : Nat → Value → Prop} {St : Nat → Heap → Prop}
theorem neat_loop (W : Walks PG w A.in1 I fp wr n P St) {S : Addr} (hS : S ∉ fp) {val : Nat → Int} (hval : ∀ i v, P i v → ∃ t, v = .int (val i) t) (h4 : n ≤ 4) :
    ∀ (k i : Nat) (s : Shared), n = i + k → St i s.heap → NeatAt w s.heap S (firstMet val i) →
      (∀ h' tk, (∀ b o, b ≠ S → b ∉ wr → s.heap.get? b = some o → h'.get? b = some o) → NeatAt w h' S (firstMet val n) → R (.ok (.ret .none)) { s with heap := h', toks := tk }) →
      codeAny (model PG w) A (.builtin "set.update.loop" ⟨[.ref S, .ref I], []⟩) R s := by
  have hw : S ∉ wr := fun q => hS (W.sub _ q)
  intro k
  induction k with
  | zero =>
    intro i s hi st N hR
    have hi : n = i := by omega
    subst hi
    refine codeAny_builtin F.entry_set_update_loop ?_
    rw [Around.under_plainId F.plain_set_update_loop _]
    show wpAny _ A.in1 (pyNext (.ref I) >>= _) _ _ s
    refine wpAny_bind (W.done s _ _ st fun h' tk hk => ?_)
    obtain ⟨o, es, ep, t, ho, H⟩ := N
    exact wpAny_pure (hR h' tk (fun b o _ hb e => hk b o hb e) ⟨o, es, ep, t, hk _ _ hw ho, H⟩)
  | succ k ih =>
    intro i s hi st N hR
    refine codeAny_builtin F.entry_set_update_loop ?_
    rw [Around.under_plainId F.plain_set_update_loop _]
    show wpAny _ A.in1 (pyNext (.ref I) >>= _) _ _ s
    refine wpAny_bind (W.item i s _ _ (by omega) st fun v h' tk hP st' hk => ?_)
    obtain ⟨t₀, rfl⟩ := hval i v hP
    obtain ⟨o, es, ep, t, ho, H⟩ := N
    show wpAny _ A.in1 (holding [Value.int (val i) t₀] (setAdd S (.int (val i) t₀)) >>= _) _ _ _
    refine wpAny_bind (wpAny_holding ?_)
    unfold setAdd
    refine wpAny_holding (wpAny_bind ((intKind PG w).pyHash (k := val i) (intKind_is _ _ _ _) ?_))
    refine neat_add (s := { heap := h', gens := s.gens, drawn := s.drawn, toks := tk + 1, os := s.os }) (hk _ _ hw ho) H (fun _ => by have := firstMet_length_le val i; omega) fun b h₂ o₂ es₂ ep₂ t₂ sb ho₂ H₂ => ?_
    refine wpAny_pure ⟨plainId_quiet F.plain_set_update_loop _, ih (i + 1) _ (by omega) (W.frame _ _ _ st' fun b hb o e => ?_) ⟨o₂, es₂, ep₂, t₂, ho₂, by rw [firstMet_succ]; exact H₂⟩ fun h₃ tk₃ hk₃ N₃ => ?_⟩
    · dsimp only; rw [sb.2 b (fun q : b = S => hS (by rw [← q]; exact hb))]; exact e
    · exact hR h₃ tk₃ (fun b o hb hbw e => hk₃ b o hb hbw (by dsimp only; rw [sb.2 b hb]; exact hk b o hbw e)) N₃
theorem neat_fresh {w : World} : NeatSet w { cls := .type "set", dict := none, data := .set #[] 0 (.fresh 0 0 (!w.params.followText "set-order")) } #[] 0 (.fresh 0 0 (!w.params.followText "set-order")) [] where
  ex := ⟨rfl, rfl, rfl⟩
  data := rfl
  el := fun e he => by simp at he
  vals := ⟨[], .nil, .refl _⟩
  mask := rfl
  dum := rfl
  plain := rfl
  led := fun h => by rw [h]; rfl
  place := by show ([] : List Nat) ∈ allNeat 4; decide +kernel
  size := rfl
theorem sub_tuple_set : isSubtype (.type "tuple") (.type "set") = pure false := by rw [isSubtype_type]; kernel_rfl
theorem sub_tuple_frozenset : isSubtype (.type "tuple") (.type "frozenset") = pure false := by rw [isSubtype_type]; kernel_rfl
variable {s : Shared}
theorem set_new (x : Value) {Q₁ : Value → Shared → Prop}
    (h : Q₁ (.ref s.heap.objs.size) { s with heap := s.heap.push { cls := .type "set", dict := none, data := .set #[] 0 (.fresh 0 0 (!w.params.followText "set-order")) } }) :
    codeAny (model PG w) A (.call (.builtin "set.__new__") ⟨[.type "set", x], []⟩) (wants Q₁ E) s := by
  refine codeAny_of_tree ?_
  show wpAny _ A.in1 (do checkBuiltinCall "set.__new__" ⟨[.type "set", x], []⟩; again (.builtin "set.__new__" ⟨[.type "set", x], []⟩)) _ _ s
  refine wpAny_bind (wpAny_of_eq (F.newCall_set_1 x) (wpAny_pure ⟨plainId_quiet F.plain_set_new _, codeAny_builtin F.entry_set_new ?_⟩))
  rw [Around.under_plainId F.plain_set_new _]
  unfold Builtin.«set.__new__» Builtin.Frozenset.newClass
  have hsub := sub_set_self
  obtain ⟨hp, g, d, tk, os⟩ := s
  dsimp only
  wp_walk
  refine wpAny_askSetting (wpAny_pure ?_)
  dsimp only
  simp only [newObj]
  exact wpAny_bind (wpAny_alloc (wpAny_pure (wpAny_pure h)))
end
end Mine
end
-- text SetE
section
open PySem PySem.W PySem.Calls PyProof.Rows
set_option Elab.async false
set_option maxRecDepth 1000000
set_option maxHeartbeats 4000000
set_option linter.unusedVariables false
namespace Mine
section
variable {w : World} {A : Around} {E : Value → Shared → Prop} {s : Shared}
theorem fill_set {l S : Addr} {items : Array Value} {ns : List Int} {Q : Unit → Shared → Prop}
    (hh : A.handled = none) (hl : s.heap.IsList l items ∨ s.heap.IsTuple l items) (hi : IntsAre items.toList ns) (h4 : items.size ≤ 4) (hS : NeatAt w s.heap S []) (hne : S ≠ l)
    (h : ∀ h' tk, NeatAt w h' S (firstMet (fun i => ns.getD i 0) items.size) → (∀ b o, b ≠ S → s.heap.get? b = some o → h'.get? b = some o) → Q () { s with heap := h', toks := tk }) :
    wpAny (model PG w) A (Builtin.Frozenset.updateFrom "set.__init__" S (.ref l)) Q E s := by
  have hval : ∀ (i : Nat) (v : Value), items[i]? = some v → ∃ t, v = .int ((fun i => ns.getD i 0) i) t := fun i v hv => IntsAre.int_at hi i v (by rw [Array.getElem?_toList]; exact hv)
  obtain ⟨oS, es, ep, t, hoS, HS⟩ := id hS
  have hlS : S < s.heap.objs.size := Heap.lt_size hoS
  unfold Builtin.Frozenset.updateFrom
  rcases hl with hl | hl
  · obtain ⟨ol, hol, hcl, nl, hdl⟩ := id hl
    have hT : s.TypeIs (.ref l) "list" := ⟨ol, hol, hcl⟩
    have hll : l < s.heap.objs.size := Heap.lt_size hol
    refine wpAny_bind ?_
    unfold Builtin.Frozenset.isAnySet
    refine wpAny_bind (wpAny_isInstance hT F.sub_list_set ?_)
    refine wpAny_isInstance hT F.sub_list_frozenset ?_
    dsimp only
    rw [if_neg Bool.false_ne_true]
    refine wpAny_bind (wpAny_typeOf hT ?_)
    rw [if_neg (by decide)]
    refine wpAny_bind (wpAny_pyIter_list hl ?_)
    refine wpAny_bind (wpAny_runValue ?_)
    refine neat_loop (Walks.list (by simp [hh]) _ l (Nat.ne_of_lt hll) items) (S := S) (by simp; exact ⟨Nat.ne_of_lt hlS, hne⟩) hval h4 items.size 0 _ (by omega) ⟨⟨_, Heap.get?_push_size _ rfl, rfl, rfl⟩, hl.push _⟩ ⟨oS, es, ep, t, Heap.get?_push_of_some _ hoS, HS⟩ fun h' tk hk N => ?_
    refine wpAny_pure (h h' tk N fun b o hb e => hk b o hb (by simp; exact Nat.ne_of_lt (Heap.lt_size e)) (Heap.get?_push_of_some _ e))
  · obtain ⟨ol, hol, hcl, nl, hdl⟩ := id hl
    have hT : s.TypeIs (.ref l) "tuple" := ⟨ol, hol, hcl⟩
    have hll : l < s.heap.objs.size := Heap.lt_size hol
    refine wpAny_bind ?_
    unfold Builtin.Frozenset.isAnySet
    refine wpAny_bind (wpAny_isInstance hT sub_tuple_set ?_)
    refine wpAny_isInstance hT sub_tuple_frozenset ?_
    dsimp only
    rw [if_neg Bool.false_ne_true]
    refine wpAny_bind (wpAny_typeOf hT ?_)
    rw [if_neg (by decide)]
    refine wpAny_bind (wpAny_pyIter_tuple hl ?_)
    refine wpAny_bind (wpAny_runValue ?_)
    refine neat_loop (Walks.tuple (by simp [hh]) _ l (Nat.ne_of_lt hll) items) (S := S) (by simp; exact ⟨Nat.ne_of_lt hlS, hne⟩) hval h4 items.size 0 _ (by omega) ⟨⟨_, Heap.get?_push_size _ rfl, rfl, rfl⟩, hl.at fun o e => Heap.get?_push_of_some _ e⟩ ⟨oS, es, ep, t, Heap.get?_push_of_some _ hoS, HS⟩ fun h' tk hk N => ?_
    refine wpAny_pure (h h' tk N fun b o hb e => hk b o hb (by simp; exact Nat.ne_of_lt (Heap.lt_size e)) (Heap.get?_push_of_some _ e))
end
end Mine
end
-- text SetF
section
open PySem PySem.W PySem.Calls PyProof.Rows
set_option Elab.async false
set_option maxRecDepth 1000000
set_option maxHeartbeats 4000000
set_option linter.unusedVariables false
namespace Mine
section
variable {w : World} {A : Around} {E : Value → Shared → Prop} {s : Shared}
theorem set_init_body {l S : Addr} {items : Array Value} {ns : List Int} {Q : Flow → Shared → Prop} {X : Value → Shared → Prop} {K : Code → Shared → Prop} {b : Bool}
    (hh : A.handled = none) (hl : s.heap.IsList l items ∨ s.heap.IsTuple l items) (hi : IntsAre items.toList ns) (h4 : items.size ≤ 4) (hS : NeatAt w s.heap S []) (hne : S ≠ l) (ho : s.heap.get? S = some { cls := .type "set", dict := none, data := .set #[] 0 (.fresh 0 0 b) })
    (h : ∀ h' tk, NeatAt w h' S (firstMet (fun i => ns.getD i 0) items.size) → (∀ b o, b ≠ S → s.heap.get? b = some o → h'.get? b = some o) → Q (.ret .none) { s with heap := h', toks := tk }) :
    wpAny (model PG w) A (Builtin.«set.__init__» ⟨[.ref S, .ref l], []⟩) (fun fin s' => match fin with | .done f => Q f s' | .again c => K c s') X s := by
  have hT : s.TypeIs (.ref S) "set" := ⟨_, ho, rfl⟩
  unfold Builtin.«set.__init__» noKeywords
  generalize hPI : Builtin.Frozenset.updateFrom = PI
  wp_walk
  subst hPI
  refine fill_set hh hl hi h4 hS hne fun h' tk N hk => ?_
  exact wpAny_pure (h h' tk N hk)
theorem set_call {l : Addr} {items : Array Value} {ns : List Int} {Q : Value → Shared → Prop}
    (hh : A.handled = none) (hl : s.heap.IsList l items ∨ s.heap.IsTuple l items) (hi : IntsAre items.toList ns) (h4 : items.size ≤ 4)
    (h : ∀ h' tk, NeatAt w h' s.heap.objs.size (firstMet (fun i => ns.getD i 0) items.size) → (∀ b o, s.heap.get? b = some o → h'.get? b = some o) → Q (.ref s.heap.objs.size) { s with heap := h', toks := tk }) :
    wpAny (model PG w) A (call (.type "set") [.ref l]) Q E s := by
  obtain ⟨c, tl, hmro⟩ := F.called_set.mro
  have hmade := F.called_set.made
  have hsub := F.called_set.sub
  refine wpAny_call (codeAny_of_tree ?_)
  show wpAny _ _ (callAny (.type "set") _) _ _ _
  refine wpAny_pure ⟨Code.quiet_builtin _ (by decide +kernel), codeAny_builtin F.entry_type_call ?_⟩
  rw [Around.under_plain (weight_type_call_type "set" [.ref l] []) rfl]
  have h1 := F.called_set.notType
  have h2 := F.called_set.canCreate
  have hct := F.typeCall_set_1 (.ref l)
  repeat (any_goals (first | assumption | wp_step))
  refine codeAny_mono (set_new (.ref l) (E := E) (Q₁ := fun obj s₁ => obj = .ref s.heap.objs.size ∧ s₁ = { s with heap := s.heap.push { cls := .type "set", dict := none, data := .set #[] 0 (.fresh 0 0 (!w.params.followText "set-order")) } }) ⟨rfl, rfl⟩) fun r s₁ hr => ?_
  match r, hr with
  | .error e, hr => exact hr
  | .ok (.ret obj), hr =>
    obtain ⟨rfl, rfl⟩ := hr
    have hg := Heap.get?_push_size s.heap (o := { cls := .type "set", dict := none, data := .set #[] 0 (.fresh 0 0 (!w.params.followText "set-order")) }) rfl
    have hT : Shared.TypeIs { s with heap := s.heap.push { cls := .type "set", dict := none, data := .set #[] 0 (.fresh 0 0 (!w.params.followText "set-order")) } } (.ref s.heap.objs.size) "set" := ⟨_, hg, rfl⟩
    have hli := F.called_set.init.lookup
    have hbi := F.called_set.init.bind (.ref s.heap.objs.size)
    repeat (any_goals (first | assumption | wp_step))
    refine codeAny_mono (codeAny_call_builtin (R := wants (fun r s₂ => r = .none ∧ Q (.ref s.heap.objs.size) s₂) E) F.called_set.init.plain F.entry_set_init (check_set_init_1 hT ?_)) fun r₂ s₂ hr₂ => ?_
    · refine set_init_body (b := !w.params.followText "set-order") (by simp [hh]) (hl.imp (fun x => x.push _) fun x => let ⟨o, ho, r⟩ := x; ⟨o, Heap.get?_push_of_some _ ho, r⟩) hi h4 ⟨_, _, _, _, hg, neat_fresh⟩ (fun q => ?_) hg fun h' tk N hk => ⟨rfl, h h' tk N fun b o e => hk b o (Nat.ne_of_lt (Heap.lt_size e)) (Heap.get?_push_of_some _ e)⟩
      have : l < s.heap.objs.size := by rcases hl with ⟨o, ho, _⟩ | ⟨o, ho, _⟩ <;> exact Heap.lt_size ho
      exact absurd (q ▸ this) (Nat.lt_irrefl _)
    · match r₂, hr₂ with
      | .error e, hr₂ => exact hr₂
      | .ok (.ret r), hr₂ =>
        obtain ⟨rfl, hq⟩ := hr₂
        repeat (any_goals (first | assumption | wp_step))
end
end Mine
end
-- text SetG
section
open PySem PySem.W PySem.Calls PyProof.Rows
set_option Elab.async false
set_option maxRecDepth 1000000
set_option maxHeartbeats 4000000
set_option linter.unusedVariables false
namespace Mine
theorem erase_perm {α : Type} : ∀ (l : List α) (i : Nat) (h : i < l.length), (l[i] :: l.eraseIdx i).Perm l
  | x :: r, 0, _ => .refl _
  | x :: r, i + 1, h => by
    have h' : i < r.length := by simpa using h
    show (r[i] :: x :: r.eraseIdx i).Perm (x :: r)
    exact (List.Perm.swap _ _ _).trans ((erase_perm r i h').cons x)
theorem pick_go {α : Type} (next : Nat → Nat) : ∀ (f k : Nat) (left : List α) (out : Array α), f = left.length → (pickOrder.go next f k left out).toList.Perm (out.toList ++ left)
  | 0, k, left, out, h => by
    have : left = [] := List.eq_nil_of_length_eq_zero h.symm
    subst this
    unfold pickOrder.go; simp
  | f + 1, k, left, out, h => by
    have hl : 0 < left.length := by omega
    have hi : next k % left.length < left.length := Nat.mod_lt _ hl
    unfold pickOrder.go
    rw [List.getElem?_eq_getElem hi]
    dsimp only
    refine (pick_go next f (k + 1) _ _ (by rw [List.length_eraseIdx_of_lt hi]; omega)).trans ?_
    rw [Array.toList_push, List.append_assoc]
    exact (List.Perm.refl _).append (erase_perm _ _ hi)
theorem pick_perm {α : Type} (next : Nat → Nat) (xs : Array α) : (pickOrder next xs).toList.Perm xs.toList := by
  have := pick_go next xs.size 0 xs.toList #[] (by simp)
  simpa [pickOrder] using this
noncomputable def walkOf (w : World) (S : Addr) (ep : Nat) (es : Array (Int × Value)) : Array (Int × Value) := if w.params.followText "set-order" = true then pickOrder (w.params.setOrder S ep) es else es
theorem walkOf_perm (w : World) (S : Addr) (ep : Nat) (es : Array (Int × Value)) : (walkOf w S ep es).toList.Perm es.toList := by
  unfold walkOf; split
  · exact pick_perm _ _
  · exact .refl _
theorem walkOf_size (w : World) (S : Addr) (ep : Nat) (es : Array (Int × Value)) : (walkOf w S ep es).size = es.size := by
  have := (walkOf_perm w S ep es).length_eq
  simpa using this
noncomputable def slotOf (w : World) (t : SetTable) (i : Nat) : Nat := if w.params.followText "set-order" = true then 0 else slotAt t.place.toList i
section
variable {w : World} {A : Around} {E : Value → Shared → Prop} {s : Shared} {S : Addr} {o : Obj} {es : Array (Int × Value)} {ep : Nat} {t : SetTable} {σ : List Int}
theorem set_next_item {i : Nat} {Q : Option (Value × Nat) → Shared → Prop} (ho : s.heap.get? S = some o) (H : NeatSet w o es ep t σ) (hi : i < es.size)
    (hQ : ∀ e, (walkOf w S ep es)[i]? = some e → Q (some (e.2, slotOf w t (i + 1))) s) : wpAny (model PG w) A (setNext S (slotOf w t i) i ep) Q E s := by
  have hw : i < (walkOf w S ep es).size := by rw [walkOf_size]; exact hi
  unfold setNext
  refine wpAny_bind (wpAny_setState_of ho H.data H.fits ?_)
  dsimp only
  unfold setsByText
  refine wpAny_bind (wpAny_bind (wpAny_askSetting (wpAny_pure ?_)))
  dsimp only
  obtain ⟨mask, place, dummies, finger, led, moves, plain⟩ := t
  have hpl : plain = true := H.plain
  subst hpl
  cases hb : w.params.followText "set-order" with
  | true =>
    have hb' : (model PG w).w.params.followText "set-order" = true := hb
    have hwk : walkOf w S ep es = pickOrder (w.params.setOrder S ep) es := by unfold walkOf; rw [if_pos hb]
    have hq := hQ _ (Array.getElem?_eq_getElem hw)
    have e1 : slotOf w ⟨mask, place, dummies, finger, led, moves, true⟩ i = slotOf w ⟨mask, place, dummies, finger, led, moves, true⟩ (i + 1) := by unfold slotOf; rw [if_pos hb, if_pos hb]
    rw [e1]
    rw [if_pos hb', if_neg (by simp)]
    refine wpAny_bind ?_
    unfold setWalk
    refine wpAny_bind (wpAny_setState_of ho H.data H.fits ?_)
    dsimp only
    unfold setsByText
    refine wpAny_bind (wpAny_bind (wpAny_askSetting (wpAny_pure ?_)))
    dsimp only
    rw [if_pos hb']
    refine wpAny_bind (wpAny_askSetting (wpAny_pure ?_))
    dsimp only
    rw [show pickOrder ((model PG w).w.params.setOrder S ep) es = walkOf w S ep es from hwk.symm, Array.getElem?_eq_getElem hw]
    exact wpAny_pure hq
  | false =>
    have hb' : (model PG w).w.params.followText "set-order" = false := hb
    have hled : led = true := H.led hb
    subst hled
    have hwk : walkOf w S ep es = es := by unfold walkOf; rw [if_neg (by rw [hb]; exact Bool.noConfusion)]
    have hsz : place.size = es.size := H.size
    have hbl : SetTable.below place (slotAt place.toList i) = i := by
      have := neat_slot (i := i) H.place (by simp; omega)
      simpa using this
    have e1 : ∀ j, slotOf w ⟨mask, place, dummies, finger, true, moves, true⟩ j = slotAt place.toList j := fun j => by unfold slotOf; rw [if_neg (by rw [hb]; exact Bool.noConfusion)]
    rw [e1]
    simp only [e1] at hQ
    have hi2 : i < place.size := by omega
    have hq := hQ _ (by rw [hwk]; exact Array.getElem?_eq_getElem hi)
    rw [if_neg (by rw [hb']; exact Bool.noConfusion)]
    refine wpAny_ite_split (fun h => nomatch (h : false = true)) fun _ => ?_
    refine wpAny_bind (wpAny_pure ?_)
    dsimp only
    rw [hbl, Array.getElem?_eq_getElem hi, Array.getElem?_eq_getElem hi2]
    refine wpAny_pure ?_
    have e2 : slotAt place.toList (i + 1) = place[i] + 1 := by simp [slotAt, hi2]
    rw [e2] at hq
    exact hq
theorem set_next_end {Q : Option (Value × Nat) → Shared → Prop} (ho : s.heap.get? S = some o) (H : NeatSet w o es ep t σ)
    (hQ : Q none s) : wpAny (model PG w) A (setNext S (slotOf w t es.size) es.size ep) Q E s := by
  unfold setNext
  refine wpAny_bind (wpAny_setState_of ho H.data H.fits ?_)
  dsimp only
  unfold setsByText
  refine wpAny_bind (wpAny_bind (wpAny_askSetting (wpAny_pure ?_)))
  dsimp only
  obtain ⟨mask, place, dummies, finger, led, moves, plain⟩ := t
  have hpl : plain = true := H.plain
  subst hpl
  cases hb : w.params.followText "set-order" with
  | true =>
    have hb' : (model PG w).w.params.followText "set-order" = true := hb
    have hwk : walkOf w S ep es = pickOrder (w.params.setOrder S ep) es := by unfold walkOf; rw [if_pos hb]
    rw [if_pos hb', if_neg (by simp)]
    refine wpAny_bind ?_
    unfold setWalk
    refine wpAny_bind (wpAny_setState_of ho H.data H.fits ?_)
    dsimp only
    unfold setsByText
    refine wpAny_bind (wpAny_bind (wpAny_askSetting (wpAny_pure ?_)))
    dsimp only
    rw [if_pos hb']
    refine wpAny_bind (wpAny_askSetting (wpAny_pure ?_))
    dsimp only
    rw [show pickOrder ((model PG w).w.params.setOrder S ep) es = walkOf w S ep es from hwk.symm, Array.getElem?_eq_none (by rw [walkOf_size]; exact Nat.le_refl _)]
    exact wpAny_pure hQ
  | false =>
    have hb' : (model PG w).w.params.followText "set-order" = false := hb
    have hled : led = true := H.led hb
    subst hled
    have hsz : place.size = es.size := H.size
    have hbl : SetTable.below place (slotAt place.toList es.size) = es.size := by
      have := neat_slot (i := es.size) H.place (by simp; omega)
      simpa using this
    have e1 : ∀ j, slotOf w ⟨mask, place, dummies, finger, true, moves, true⟩ j = slotAt place.toList j := fun j => by unfold slotOf; rw [if_neg (by rw [hb]; exact Bool.noConfusion)]
    rw [e1]
    rw [if_neg (by rw [hb']; exact Bool.noConfusion)]
    refine wpAny_ite_split (fun h => nomatch (h : false = true)) fun _ => ?_
    refine wpAny_bind (wpAny_pure ?_)
    dsimp only
    rw [hbl, Array.getElem?_eq_none (Nat.le_refl _)]
    exact wpAny_pure hQ
end
end Mine
end
-- text SetH
section
open PySem PySem.W PySem.Calls PyProof.Rows
set_option Elab.async false
set_option maxRecDepth 1000000
set_option maxHeartbeats 4000000
set_option linter.unusedVariables false
namespace Mine
theorem slot_setiter_next : Slot "set_iterator" "__next__" "set_iterator.__next__" :=
  .of (owner := "set_iterator") (n := "__next__") (by rw [typeLookup_type, builtinLookup_eq_fast]; kernel_rfl) (by decide +kernel) (by decide +kernel) (by decide +kernel)
    (by first | exact .inl (by decide +kernel) | exact .inr (by decide +kernel)) (by rw [isSubtype_type]; kernel_rfl)
theorem slot_setiter_iter : Slot "set_iterator" "__iter__" "set_iterator.__iter__" :=
  .of (owner := "set_iterator") (n := "__iter__") (by rw [typeLookup_type, builtinLookup_eq_fast]; kernel_rfl) (by decide +kernel) (by decide +kernel) (by decide +kernel)
    (by first | exact .inl (by decide +kernel) | exact .inr (by decide +kernel)) (by rw [isSubtype_type]; kernel_rfl)
theorem entry_setiter_next : entryFor table "set_iterator.__next__" = some Builtin.«set_iterator.__next__» := entryFor_of_tree (by kernel_rfl)
theorem entry_setiter_iter : entryFor table "set_iterator.__iter__" = some Builtin.«dict_keyiterator.__iter__» :=
  entryFor_alias (id' := "dict_keyiterator.__iter__") (by kernel_rfl) rfl (by decide +kernel) (by kernel_rfl)
theorem entry_set_iter : entryFor table "set.__iter__" = some Builtin.«frozenset.__iter__» :=
  entryFor_alias (id' := "frozenset.__iter__") (by kernel_rfl) rfl (by decide +kernel) (by kernel_rfl)
theorem owner_setiter : Manifest.owners.lookup (String.ofList ['r', 'o', 't', 'a', 'r', 'e', 't', 'i', '_', 't', 'e', 's'].reverse) = some Manifest.sig_set_iterator := by kernel_rfl
theorem args_setiter_next (a : Value) : argsOk "set_iterator.__next__" ⟨[a], []⟩ := by
  unfold argsOk; rw [signature?_of (id := "set_iterator.__next__") (n := ['_', '_', 't', 'x', 'e', 'n', '_', '_']) (o := ['r', 'o', 't', 'a', 'r', 'e', 't', 'i', '_', 't', 'e', 's']) (by kernel_rfl) owner_setiter]; kernel_rfl
theorem args_setiter_iter (a : Value) : argsOk "set_iterator.__iter__" ⟨[a], []⟩ := by
  unfold argsOk; rw [signature?_of (id := "set_iterator.__iter__") (n := ['_', '_', 'r', 'e', 't', 'i', '_', '_']) (o := ['r', 'o', 't', 'a', 'r', 'e', 't', 'i', '_', 't', 'e', 's']) (by kernel_rfl) owner_setiter]; kernel_rfl
end Mine
end
-- text SetI
section
open PySem PySem.W PySem.Calls PyProof.Rows
set_option Elab.async false
set_option maxRecDepth 1000000
set_option maxHeartbeats 4000000
set_option linter.unusedVariables false
namespace Mine
noncomputable def SetIter (h : Heap) (I S : Addr) (sl i n ep : Nat) : Prop := ∃ o, h.get? I = some o ∧ o.cls = .type "set_iterator" ∧ o.data = .fields #[.int sl 0, .int i 0, .ref S, .int n 0, .int ep 0]
theorem SetIter.at {h h' : Heap} {I S sl i n ep} (x : SetIter h I S sl i n ep) (e : ∀ o, h.get? I = some o → h'.get? I = some o) : SetIter h' I S sl i n ep := let ⟨o, ho, r⟩ := x; ⟨o, e _ ho, r⟩
theorem SetIter.typeIs {s : Shared} {I S sl i n ep} (x : SetIter s.heap I S sl i n ep) : s.TypeIs (.ref I) "set_iterator" := let ⟨o, ho, hc, _⟩ := x; ⟨o, ho, hc⟩
section
variable {w : World} {A : Around} {E : Value → Shared → Prop} {s : Shared} {S I : Addr} {o : Obj} {es : Array (Int × Value)} {ep : Nat} {t : SetTable} {σ : List Int}
theorem slotOf_zero : slotOf w t 0 = 0 := by unfold slotOf; split <;> rfl
theorem pyIter_set {Q : Value → Shared → Prop} (ho : s.heap.get? S = some o) (H : NeatSet w o es ep t σ)
    (hQ : Q (.ref s.heap.objs.size) { s with heap := s.heap.push { cls := .type "set_iterator", data := .fields #[.int 0 0, .int 0 0, .ref S, .int es.size 0, .int ep 0] } }) :
    wpAny (model PG w) A (pyIter (.ref S)) Q E s := by
  have hT : s.TypeIs (.ref S) "set" := ⟨o, ho, H.ex.1⟩
  refine wpAny_pyIter_slot hT F.slot_set_iter (wpAny_call_entry F.slot_set_iter hT entry_set_iter ?_ (F.args_set_iter_1 _))
  unfold Builtin.«frozenset.__iter__»
  refine wpAny_bind ?_
  show wpAny _ _ (pure S) _ _ s
  refine wpAny_pure ?_
  refine wpAny_bind ?_
  unfold Builtin.Frozenset.sizeOf
  refine wpAny_bind (wpAny_setEntries_of ho H.data H.fits (wpAny_pure ?_))
  refine wpAny_bind ?_
  unfold setDrawn
  refine wpAny_bind (wpAny_setState_of ho H.data H.fits ?_)
  dsimp only
  unfold setsByText
  refine wpAny_bind (wpAny_bind (wpAny_askSetting (wpAny_pure ?_)))
  obtain ⟨mask, place, dummies, finger, led, moves, plain⟩ := t
  have hpl : plain = true := H.plain
  subst hpl
  refine wpAny_pure ?_
  refine wpAny_ite_split (fun h => ?_) fun _ => ?_
  · exact absurd h (by
      intro q
      have h2 : ∀ x : Bool, (!x && false) = true → False := fun x => by cases x <;> decide
      exact h2 _ q)
  refine wpAny_bind (wpAny_pure ?_)
  refine wpAny_bind (wpAny_setEpoch_of ho H.data H.fits ?_)
  refine wpAny_bind (wpAny_newObj_type (wpAny_pure ⟨_, rfl, "set_iterator", _, ⟨_, Heap.get?_push_size _ rfl, rfl⟩, slot_setiter_next.lookup, ?_⟩))
  simpa [rawInt] using hQ
theorem set_item {i : Nat} {Q : Option Value → Shared → Prop} (hI : SetIter s.heap I S (slotOf w t i) i es.size ep) (ho : s.heap.get? S = some o) (H : NeatSet w o es ep t σ) (hi : i < es.size) (hne : S ≠ I)
    (hQ : ∀ e h', (walkOf w S ep es)[i]? = some e → SetIter h' I S (slotOf w t (i + 1)) (i + 1) es.size ep → (∀ b x, b ≠ I → s.heap.get? b = some x → h'.get? b = some x) → Q (some e.2) { s with heap := h' }) :
    wpAny (model PG w) A (pyNext (.ref I)) Q E s := by
  obtain ⟨oi, hoi, hci, hdi⟩ := id hI
  unfold pyNext
  refine wpAny_bind (wpAny_attempt (wpAny_callSpecial?_slot (name := Str.ofString "__next__") hI.typeIs slot_setiter_next (wpAny_call_entry slot_setiter_next hI.typeIs entry_setiter_next ?_ (args_setiter_next _))))
  unfold Builtin.«set_iterator.__next__»
  refine wpAny_bind (wpAny_pure ?_)
  dsimp only
  refine wpAny_bind (wpAny_fieldsOf hoi hdi ?_)
  show wpAny _ _ (setEntries S >>= _) _ _ _
  refine wpAny_bind (wpAny_setEntries_of ho H.data H.fits ?_)
  rw [if_neg (by simp)]
  dsimp only
  simp only [Int.toNat_natCast]
  refine wpAny_bind (set_next_item ho H hi fun e he => ?_)
  dsimp only
  refine wpAny_bind (wpAny_setField hoi hdi (by simp) ?_)
  have h1 := Heap.get?_update_self (Obj.mapFields (·.setIfInBounds 0 (rawInt (slotOf w t (i + 1))))) hoi (Obj.isFreed_of_fields (Obj.data_mapFields hdi _))
  have hd1 := Obj.data_mapFields hdi (·.setIfInBounds 0 (rawInt (slotOf w t (i + 1))))
  refine wpAny_bind (wpAny_setField h1 hd1 (by simp) ?_)
  have h2 := Heap.get?_update_self (Obj.mapFields (·.setIfInBounds 1 (rawInt ((i : Int) + 1)))) h1 (Obj.isFreed_of_fields (Obj.data_mapFields hd1 _))
  refine wpAny_pure ⟨_, rfl, wpAny_pure (hQ e _ he ⟨_, h2, (Obj.cls_mapFields ..).trans ((Obj.cls_mapFields ..).trans hci), ?_⟩ fun b x hb e => ?_)⟩
  · rw [Obj.data_mapFields hd1]; simp [rawInt]
  · rw [(Heap.SameBut.update _ I _).2 b hb, (Heap.SameBut.update _ I _).2 b hb]; exact e
theorem set_end {Q : Option Value → Shared → Prop} (hh : A.handled = none) (hI : SetIter s.heap I S (slotOf w t es.size) es.size es.size ep) (ho : s.heap.get? S = some o) (H : NeatSet w o es ep t σ)
    (hQ : ∀ h', (∀ b x, b ≠ I → s.heap.get? b = some x → h'.get? b = some x) → Q none { s with heap := h' }) :
    wpAny (model PG w) A (pyNext (.ref I)) Q E s := by
  obtain ⟨oi, hoi, hci, hdi⟩ := id hI
  unfold pyNext
  refine wpAny_bind (wpAny_attempt (wpAny_callSpecial?_slot (name := Str.ofString "__next__") hI.typeIs slot_setiter_next (wpAny_call_entry slot_setiter_next hI.typeIs entry_setiter_next ?_ (args_setiter_next _))))
  unfold Builtin.«set_iterator.__next__»
  refine wpAny_bind (wpAny_pure ?_)
  dsimp only
  refine wpAny_bind (wpAny_fieldsOf hoi hdi ?_)
  show wpAny _ _ (setEntries S >>= _) _ _ _
  refine wpAny_bind (wpAny_setEntries_of ho H.data H.fits ?_)
  rw [if_neg (by simp)]
  dsimp only
  simp only [Int.toNat_natCast]
  refine wpAny_bind (set_next_end ho H ?_)
  dsimp only
  refine wpAny_bind (wpAny_setField hoi hdi (by simp) ?_)
  show wpAny _ _ (newExc (.type "StopIteration") [] >>= _) _ _ _
  refine wpAny_bind ?_
  simp only [newExc, newTuple]
  refine wpAny_bind (wpAny_newObj_type ?_ (by size_fits))
  refine wpAny_bind (m := firstArgMember _ _) (wpAny_of_eq (a := Value.none) (by first | rfl | (simp only [firstArgMember]; rfl)) ?_)
  refine wpAny_newObj_type ?_ (by size_fits)
  simp only [raiseNew]
  refine wpAny_bind (wpAny_handled ?_)
  rw [show A.in1.handled = none from hh]
  refine wpAny_bind (wpAny_pure (wpAny_throw ?_))
  refine wpAny_bind (wpAny_isInstance (T := "StopIteration") (b := true) ⟨_, Heap.get?_push_size _ rfl, rfl⟩ isSubtype_stop ?_)
  exact wpAny_pure (hQ _ fun b x hb e => (((Heap.SameBut.update _ I _).extBut.push _).push _) b x hb e)
theorem pyIter_setiter {sl i n : Nat} {Q : Value → Shared → Prop} (hI : SetIter s.heap I S sl i n ep) (h : Q (.ref I) s) : wpAny (model PG w) A (pyIter (.ref I)) Q E s := by
  refine wpAny_pyIter_slot hI.typeIs slot_setiter_iter (wpAny_call_entry slot_setiter_iter hI.typeIs entry_setiter_iter ?_ (args_setiter_iter _))
  show wpAny _ _ (ret (.ref I)) _ _ s
  exact wpAny_pure ⟨_, rfl, "set_iterator", _, hI.typeIs, slot_setiter_next.lookup, h⟩
theorem walks_set (hh : A.handled = none) (H : NeatSet w o es ep t σ) (hne : S ≠ I) :
    Walks PG w A I [I, S] [I] es.size (fun i v => ∃ e, (walkOf w S ep es)[i]? = some e ∧ v = e.2) (fun i h => SetIter h I S (slotOf w t i) i es.size ep ∧ h.get? S = some o) where
  sub := fun b hb => by simp at hb; simp [hb]
  frame := fun _ _ _ st hk => ⟨st.1.at fun o e => hk I (by simp) o e, hk S (by simp) _ st.2⟩
  item := fun i s Q E hi st hQ => set_item st.1 st.2 H hi hne fun e h' he hI hk => hQ e.2 h' s.toks ⟨e, he, rfl⟩ ⟨hI, hk _ _ hne st.2⟩ fun b o hb e => hk b o (fun q => hb (by simp [q])) e
  done := fun s Q E st hQ => set_end hh st.1 st.2 H fun h' hk => hQ h' s.toks fun b o hb e => hk b o (fun q => hb (by simp [q])) e
  self := fun _ _ _ _ st hQ => pyIter_setiter st.1 hQ
theorem hint_set {Q : Bool → Shared → Prop} (hT : s.TypeIs (.ref S) "set") (h : Q false s) : wpAny (model PG w) A (Builtin.List.listLengthHint (.ref S)) Q E s := by
  unfold Builtin.List.listLengthHint
  refine wpAny_bind (wpAny_specialOf hT F.slot_set_len.lookup ?_)
  generalize hid : ("set.__len__" : String) = id0
  wp_delta
  rw [show splitId id0 = some ("set", "__len__") from by subst hid; decide +kernel]
  subst hid
  refine wpAny_bind (wpAny_isInstance (T := "set") (b := true) hT (by rw [isSubtype_type]; kernel_rfl) ?_)
  refine wpAny_ite_split (fun hab => absurd hab (by decide)) (fun _ => ?_)
  refine wpAny_ite_split (fun _ => ?_) (fun hab => absurd (by decide +kernel) hab)
  refine wpAny_bind (wpAny_typeOf hT ?_)
  exact wpAny_pure h
theorem src_set (H : NeatSet w o es ep t σ) : KdlSrc PG w "set" S S es.size (fun i v => ∃ e, (walkOf w S ep es)[i]? = some e ∧ v = e.2) (fun h => h.get? S = some o) where
  type := fun _ ho => ⟨o, ho, H.ex.1⟩
  there := fun _ ho => ⟨Heap.lt_size ho, Heap.lt_size ho⟩
  keep := fun _ _ ho hk => hk S (.inl rfl) _ ho
  notList := by decide
  notTuple := by decide
  hint := fun _ _ _ _ ho hq => hint_set ⟨o, ho, H.ex.1⟩ hq
  iter := fun _ _ hh ho => ⟨_, _, (fun _ _ hq => pyIter_set ho H hq), walks_set hh H (Nat.ne_of_lt (Heap.lt_size ho)), ⟨⟨_, Heap.get?_push_size _ rfl, rfl, by rw [slotOf_zero]; rfl⟩, Heap.get?_push_of_some _ ho⟩⟩
end
end Mine
end
-- text SetJ
section
open PySem PySem.W PySem.Calls PyProof.Rows
set_option Elab.async false
set_option maxRecDepth 1000000
set_option linter.unusedVariables false
namespace Mine
noncomputable def dd (ns : List Int) : List Int := ns.foldl step_dedup []
theorem firstMet_dd (ns : List Int) : firstMet (fun i => ns.getD i 0) ns.length = dd ns := by
  unfold firstMet dd
  have e : (List.range ns.length).map (fun i => ns.getD i 0) = ns := by
    apply List.ext_getElem?
    intro i
    by_cases h : i < ns.length
    · simp [h]
    · simp [h]
  rw [e]
theorem intsPerm {vs ws : List Value} (hp : vs.Perm ws) : ∀ {ks : List Int}, IntsAre ws ks → ∃ ns, IntsAre vs ns ∧ ns.Perm ks := by
  induction hp with
  | nil => intro ks h; cases h; exact ⟨[], .nil, .refl _⟩
  | cons x _ ih =>
    intro ks h
    cases h with
    | cons n t hr =>
      obtain ⟨ns, h1, h2⟩ := ih hr
      exact ⟨n :: ns, .cons n t h1, h2.cons n⟩
  | swap x y l =>
    intro ks h
    cases h with
    | cons n t hr =>
      cases hr with
      | cons n' t' hr' => exact ⟨n' :: n :: _, .cons n' t' (.cons n t hr'), List.Perm.swap _ _ _⟩
  | trans _ _ ih1 ih2 =>
    intro ks h
    obtain ⟨ns, h1, h2⟩ := ih2 h
    obtain ⟨ns', h3, h4⟩ := ih1 h1
    exact ⟨ns', h3, h4.trans h2⟩
noncomputable def NeatO (w : World) (o : Obj) (σ : List Int) : Prop := ∃ es ep t, NeatSet w o es ep t σ
section
variable {w : World} {A : Around} {E : Value → Shared → Prop} {s : Shared} {g : Heap} {L l d : Addr} {m : Str → Option Value} {news : List (Addr × Obj)} {o : Obj} {σ : List Int}
theorem dd_le (ns : List Int) : (dd ns).length ≤ ns.length := by
  rw [← firstMet_dd]; exact firstMet_length_le _ _
theorem set_N {vs : List Value} {ns : List Int} {Q : Value → Shared → Prop} (hh : A.handled = none) (F : Fr g L s.heap m) (N : News g L s.heap news)
    (hl : s.heap.IsList l (List.toArray vs) ∨ s.heap.IsTuple l (List.toArray vs)) (hi : IntsAre vs ns) (h4 : ns.length ≤ 4)
    (k : ∀ D h' o' tk, Fr g L h' m → News g L h' ((D, o') :: news) → (∀ q ∈ news, q.1 < D) → NeatO w o' (dd ns) → Q (.ref D) { s with heap := h', toks := tk }) :
    wpAny (model PG w) A (call (.type "set") [.ref l]) Q E s := by
  have hlen := hi.length
  refine set_call hh hl (by simpa using hi) (by simp; omega) fun h' tk hN hk => ?_
  obtain ⟨o', es, ep, t, ho', H⟩ := hN
  have e : firstMet (fun i => ns.getD i 0) (List.toArray vs).size = dd ns := by
    rw [List.size_toArray, hlen]; exact firstMet_dd ns
  rw [e] at H
  exact k _ h' o' tk (F.keeps hk) (news_pushed F N hk ho' rfl) (fun q hq => Heap.lt_size (N q hq).1) ⟨es, ep, t, H⟩
theorem sorted_set {Q : Value → Shared → Prop} (hh : A.handled = none) (F : Fr g L s.heap m) (N : News g L s.heap news) (hm : (d, o) ∈ news) (hd : NeatO w o σ)
    (k : ∀ D h' vs' c' tk, Fr g L h' m → News g L h' ((D, PySem.W.listOf (List.toArray vs') c') :: news) → (∀ q ∈ news, q.1 < D) → IntsAre vs' (isort σ) → vs'.length = σ.length → Q (.ref D) { s with heap := h', toks := tk }) :
    wpAny (model PG w) A (call (.builtin "sorted") [.ref d]) Q E s := by
  obtain ⟨es, ep, t, H⟩ := hd
  have h4 := H.le4
  obtain ⟨ks, v1, v2⟩ := H.vals
  have v1' : IntsAre (es.toList.map (·.2)) ks := v1
  refine kdu_sorted (src_set H) hh F N (N.get hm) (by rw [sizeLine_eq]; omega) fun D h' tk vs F' N' l1 hl hv => ?_
  have hvs : vs = (walkOf w d ep es).toList.map (·.2) := by
    apply List.ext_getElem?
    intro j
    by_cases hj : j < vs.length
    · obtain ⟨e, he, h2⟩ := hv j _ (List.getElem?_eq_getElem hj)
      rw [List.getElem?_eq_getElem hj, List.getElem?_map, Array.getElem?_toList, he, h2]; rfl
    · rw [List.getElem?_eq_none (by omega), List.getElem?_eq_none (by simp [walkOf_size]; omega)]
  have hp : vs.Perm (es.toList.map (·.2)) := by rw [hvs]; exact (walkOf_perm w d ep es).map _
  obtain ⟨ns, hn1, hn2⟩ : ∃ ns, IntsAre vs ns ∧ ns.Perm ks := intsPerm hp v1'
  refine sort_led F' N' l1 hn1 (by omega) fun h'' vs' c' F'' N'' hI' => ?_
  have e : isort ns = isort σ := isort_of_perm ((isort_perm ns).trans (hn2.trans v2)) (isort_sorted ns)
  rw [e] at hI'
  refine k D h'' vs' c' tk F'' N'' l1 hI' ?_
  rw [hI'.length, (isort_perm σ).length_eq]
end
end Mine
end
-- text Cells
section
open PySem PySem.W PySem.Calls PyProof.Rows
set_option Elab.async false
set_option maxRecDepth 100000
set_option linter.unusedVariables false
namespace Mine
section
variable {w : World} {mean : ExcName → Option Value} {mg mb : Str → Option Value} {base g : Heap} {dp un : Nat} {gd : Option (List Code)} {fr : List Env} {s : Shared}
  {R : Result → Shared → Prop} {name qual : Str} {params : Arguments} {body : List Stmt} {scope : Scope} {dV kV doc pm cdv ct oc : Value} {an od : Option Addr} {osl : Array (Option Value)} {f : Addr} {args : Args} {binds : List (Str × Value)}
/-- into the body of a def that has cells -/
theorem enterC (C : Sit w mean mg mb base dp un gd fr g s.heap)
    (ho : (hd.heap_39 w.params).lookup f = some ⟨oc, od, .func (fnOf name qual params body scope dV kV doc pm an cdv ct), osl⟩) (hcd : codeIn (hd.heap_39 w.params) cdv qual = true) (hroom : dp < recursionLimit)
    (hbind : BindsTo s (fnOf name qual params body scope dV kV doc pm an cdv ct) args binds)
    (hkind : (binds.all fun y => scope.names.lookup y.1 == some .local || scope.names.lookup y.1 == some .cell) = true)
    (hnd : ((cellsFrom 0 scope.names []).map (·.1)).Nodup)
    (h : ∀ h₁ tk cells, Fr g s.heap.objs.size h₁ (bindL (envOfC qual scope s.heap.objs.size f cdv).kindOf binds fun _ => none) → News g s.heap.objs.size h₁ cells →
      CellsAre (bindC (envOfC qual scope s.heap.objs.size f cdv).kindOf binds fun _ => none) (cellsFrom (s.heap.objs.size + 1) scope.names []) cells → (∀ p ∈ cells, s.heap.objs.size < p.1) → s.heap.StaysIn h₁ →
      wpAny (model PG w) ((ar dp un gd fr).deeper (envOfC qual scope s.heap.objs.size f cdv)) (execs body (envOfC qual scope s.heap.objs.size f cdv))
        (fun fl s' => R (.ok (.ret (match fl with | .ret v => v | _ => .none))) s')
        (fun _ _ => False)
        { s with heap := h₁, toks := tk })
    (hco : scope.isCoroutine = false) (hgen : scope.isGenerator = false) (hk : scope.kind = .function) : codeAny (model PG w) (ar dp un gd fr) (.call (.ref f) args) R s := by
  refine codeAny_call_function hroom (C.st _ _ (C.X _ _ ho)) rfl hco hgen rfl (codeRec_of (C.X.keeps C.st) hcd) (hbind _ _ _ _ ?_)
  refine wpAny_newFunctionEnv_cells hk (kindsX hkind _) fun env' he s' x => ?_
  subst he
  refine ⟨(C.T.nolimit.keeps C.st).keeps x.toInCall.keep, codeAny_func ?_⟩
  obtain ⟨h₁, tk, rfl, _⟩ := x.done
  have hk₁ := x.toInCall.keep
  obtain ⟨cells, NC, Y⟩ := Cl.news (h₀ := s.heap) (Nat.le_refl _) fun n c hm => ⟨x.cell n c (lookup_of_mem_nodup (cellsFrom_names scope.names 0 (s.heap.objs.size + 1) [] [] rfl ▸ hnd) hm), x.above n c hm⟩
  have hcells : ∀ p ∈ cells, s.heap.objs.size < p.1 := by
    have key : ∀ {cm : Str → Option Value} {cs : List (Str × Addr)} {cells : List (Addr × Obj)}, CellsAre cm cs cells → (∀ n c, (n, c) ∈ cs → s.heap.objs.size < c) → ∀ p ∈ cells, s.heap.objs.size < p.1 := by
      intro cm cs cells X
      induction X with
      | nil => intro _ p hp; cases hp
      | cons hd _ ih =>
        intro hc p hp
        rcases List.mem_cons.mp hp with rfl | hp
        · exact hc _ _ (.head _)
        · exact ih (fun n c hm => hc n c (.tail _ hm)) p hp
    exact key Y fun n c hm => x.above n c hm
  refine wpAny_mono (h h₁ tk cells ⟨x.toInCall.ns, fun b o e => hk₁ b o (C.st b o e), C.sz⟩ (fun p hp => ⟨(NC p hp).1, (NC p hp).2.1, ?_⟩) Y hcells hk₁) (fun _ _ y => y) fun _ _ y => y.elim
  cases q : g.get? p.1 with
  | none => rfl
  | some o => have := C.st _ _ q; rw [(NC p hp).2.2] at this; cases this
end
end Mine
end
-- text D3
section
open PySem PySem.W PySem.Calls PyProof.Rows
set_option Elab.async false
set_option maxRecDepth 100000
set_option maxHeartbeats 8000000
set_option linter.unusedVariables false
namespace Mine
local macro_rules | `(tactic| walk_at "p0") => `(tactic| skip)
local macro_rules | `(tactic| walk_at "p1") => `(tactic| skip)
local macro_rules | `(tactic| walk_at "p2") => `(tactic| skip)
local macro_rules | `(tactic| walk_at "p3") => `(tactic| skip)
local macro_rules | `(tactic| walk_at "p4") => `(tactic| skip)
theorem D3_fill (w : World) : (hd.heap_39 w.params = hd.heap_39 w.params ∧ PySem.Challenge.rw_nu0265_01 = PySem.Challenge.rw_nu0265_01) := by
  k_fill
  exact ⟨rfl, rfl⟩
local macro_rules | `(tactic| walk_at "subscriptTail") => `(tactic| refine Stop.to 1 ?_)
local macro_rules | `(tactic| walk_at "call builtin:len") => `(tactic| refine Stop.to 2 ?_)
section
variable (w : World) (mean : ExcName → Option Value) (mg mb : Str → Option Value) (a : NA) (tl : List (Addr × Obj)) (c : Circ)
theorem size_ctr (hc : c.kinds.length ≤ 1000) :
  Ctr w mean mg mb 35 2 10 [.ref a.net] (fun g h => NetRead w g a tl c) (fun g v _ h' => ∃ t, v = .int ((c.kinds.length : Int) - 1) t) := by
  rintro dp un gd fr base g s Q E C hd hu ⟨⟨hinst, ⟨x1, x2, x3, x4, x5, x6, x7, hdict⟩, n1, n2, n3, lo⟩, ⟨ok, op, od, g1, g2, g3, ⟨⟨kv, nk, rfl, hkv⟩, ⟨pv, np, rfl, hpv⟩, hkn, htup⟩⟩, hpool⟩ hQ
  have X := C.X
  have T := C.T
  have B := C.B
  have hlk : g.IsList a.ks (List.toArray kv) := ⟨_, g1, rfl, _, rfl⟩
  have hlen := hkv.length
  refine wpAny_call ?_
  k_dflt (refine' enter C ?k6 ?k7 ?k8 ?k9 ?kB ?_ ?c2 ?c3 ?c4 ?c5; (case k6 => k_is); (case k7 => k_is); (case k8 => omega); (case k9 => exact BindsTo.of_eq rfl); (case kB => exact locs rfl); (case c2 => exact rfl); (case c3 => exact rfl); (case c4 => exact rfl); (case c5 => decide))
  intro h₁ F K₁
  have N : News g s.heap.objs.size h₁ [] := News.nil
  (try dsimp only)
  (try k_fold)
  (k_steps; (repeat' ((first | (refine Stop.out (n := 1) ?_; (first | (((with_reducible show wpAny _ _ (subscriptTail _ _ (Value.ref _) (Value.int _ _)) _ _ _); (refine' item_g (by k_asm) (by assumption) ?a ?b ?c ?_; (case a => omega); (case b => omega); (case c => omega)); intro v9q hv9q)))) | (refine Stop.out (n := 2) ?_; (first | (((with_reducible show wpAny _ _ (call (Value.builtin "len") [Value.ref _]) _ _ _); (refine' len_g (by k_asm) (by assumption) ?a ?_; (case a => omega)); intro t9q tk9q))))); k_steps)))
  (try dsimp only)
  exact hQ _ _ _ (Fr.keep (by assumption)) ⟨_, by rw [← hlen]⟩
theorem kind_ctr (hc : c.kinds.length ≤ 1000) (gg : Int) (t0 : Tok) (h1 : -1000 ≤ gg) (h2 : gg ≤ 1000) (hlt : (ab gg).toNat < c.kinds.length) :
  Ctr w mean mg mb 42 2 10 [.ref a.net, .int gg t0] (fun g h => NetRead w g a tl c) (fun g v _ h' => ∃ x t, v = .str x t ∧ c.kinds[(ab gg).toNat]? = some x) := by
  rintro dp un gd fr base g s Q E C hd hu ⟨⟨hinst, ⟨x1, x2, x3, x4, x5, x6, x7, hdict⟩, n1, n2, n3, lo⟩, ⟨ok, op, od, g1, g2, g3, ⟨⟨kv, nk, rfl, hkv⟩, ⟨pv, np, rfl, hpv⟩, hkn, htup⟩⟩, hpool⟩ hQ
  have X := C.X
  have T := C.T
  have B := C.B
  have hlk : g.IsList a.ks (List.toArray kv) := ⟨_, g1, rfl, _, rfl⟩
  have hlen := hkv.length
  unfold ab at hlt
  refine wpAny_call ?_
  k_dflt (refine' enter C ?k6 ?k7 ?k8 ?k9 ?kB ?_ ?c2 ?c3 ?c4 ?c5; (case k6 => k_is); (case k7 => k_is); (case k8 => omega); (case k9 => exact BindsTo.of_eq rfl); (case kB => exact locs rfl); (case c2 => exact rfl); (case c3 => exact rfl); (case c4 => exact rfl); (case c5 => decide))
  intro h₁ F K₁
  have N : News g s.heap.objs.size h₁ [] := News.nil
  (try dsimp only)
  (try k_fold)
  (k_steps; (repeat' ((first | (refine Stop.out (n := 1) ?_; (first | (((with_reducible show wpAny _ _ (subscriptTail _ _ (Value.ref _) (Value.int _ _)) _ _ _); (refine' item_g (by k_asm) (by assumption) ?a ?b ?c ?_; (case a => omega); (case b => omega); (case c => omega)); intro v9q hv9q)))) | (refine Stop.out (n := 2) ?_; (first | (((with_reducible show wpAny _ _ (call (Value.builtin "len") [Value.ref _]) _ _ _); (refine' len_g (by k_asm) (by assumption) ?a ?_; (case a => omega)); intro t9q tk9q))))); k_steps)))
  (try dsimp only)
  obtain ⟨x, t, rfl, hx⟩ := hkv.at hv9q
  exact hQ _ _ _ (Fr.keep (by assumption)) ⟨x, t, rfl, hx⟩
theorem parts_ctr (hc : c.parts.length ≤ 1000) (gg : Int) (t0 : Tok) (h1 : -1000 ≤ gg) (h2 : gg ≤ 1000) (hlt : (ab gg).toNat < c.parts.length) :
  Ctr w mean mg mb 49 2 10 [.ref a.net, .int gg t0] (fun g h => NetRead w g a tl c) (fun g v _ h' => ∃ t o p, v = .ref t ∧ (t, o) ∈ tl ∧ TupObj p o ∧ c.parts[(ab gg).toNat]? = some p) := by
  rintro dp un gd fr base g s Q E C hd hu ⟨⟨hinst, ⟨x1, x2, x3, x4, x5, x6, x7, hdict⟩, n1, n2, n3, lo⟩, ⟨ok, op, od, g1, g2, g3, ⟨⟨kv, nk, rfl, hkv⟩, ⟨pv, np, rfl, hpv⟩, hkn, htup⟩⟩, hpool⟩ hQ
  have X := C.X
  have T := C.T
  have B := C.B
  have hlk : g.IsList a.ps (List.toArray pv) := ⟨_, g2, rfl, _, rfl⟩
  have hlen := hpv.length
  unfold ab at hlt
  refine wpAny_call ?_
  k_dflt (refine' enter C ?k6 ?k7 ?k8 ?k9 ?kB ?_ ?c2 ?c3 ?c4 ?c5; (case k6 => k_is); (case k7 => k_is); (case k8 => omega); (case k9 => exact BindsTo.of_eq rfl); (case kB => exact locs rfl); (case c2 => exact rfl); (case c3 => exact rfl); (case c4 => exact rfl); (case c5 => decide))
  intro h₁ F K₁
  have N : News g s.heap.objs.size h₁ [] := News.nil
  (try dsimp only)
  (try k_fold)
  (k_steps; (repeat' ((first | (refine Stop.out (n := 1) ?_; (first | (((with_reducible show wpAny _ _ (subscriptTail _ _ (Value.ref _) (Value.int _ _)) _ _ _); (refine' item_g (by k_asm) (by assumption) ?a ?b ?c ?_; (case a => omega); (case b => omega); (case c => omega)); intro v9q hv9q)))) | (refine Stop.out (n := 2) ?_; (first | (((with_reducible show wpAny _ _ (call (Value.builtin "len") [Value.ref _]) _ _ _); (refine' len_g (by k_asm) (by assumption) ?a ?_; (case a => omega)); intro t9q tk9q))))); k_steps)))
  (try dsimp only)
  obtain ⟨t, o, p, rfl, hm, hp, hx⟩ := hpv.at hv9q
  exact hQ _ _ _ (Fr.keep (by assumption)) ⟨t, o, p, rfl, hm, hp, hx⟩
end
end Mine
end
-- text Reads2
section
open PySem PySem.W PySem.Calls PyProof.Rows
set_option Elab.async false
set_option maxRecDepth 100000
set_option linter.unusedVariables false
namespace Mine
theorem NetRead.keeps {w : World} {g g' : Heap} {a : NA} {tl : List (Addr × Obj)} {c : Circ} (r : NetRead w g a tl c) (k : g.StaysIn g') : NetRead w g' a tl c := by
  obtain ⟨G, ⟨ok, op, od, h1, h2, h3, O⟩, P⟩ := r
  exact ⟨G.keeps k, ⟨ok, op, od, k _ _ h1, k _ _ h2, k _ _ h3, O⟩, fun p hp => k _ _ (P p hp)⟩
section
variable {w : World} {mean : ExcName → Option Value} {mg mb : Str → Option Value} {base g : Heap} {dp un : Nat} {gd : Option (List Code)} {fr : List Env} {s : Shared} {a : NA} {tl : List (Addr × Obj)} {c : Circ}
    {A₀ A : Around} {env : Env} {L : Addr} {m : Str → Option Value} {Q E : Value → Shared → Prop} {news : List (Addr × Obj)}
theorem kind_use {gg : Int} {t0 : Tok}
    (B : Below A₀ base fr g) (F : Fr g L s.heap m) (X : (hd.heap_39 w.params).In g) (T : TT mean mg mb g) (N : News g L s.heap news) (hf : env.frame = some L) (hke : env.scope.kind = .function)
    (hd' : dp + 2 < recursionLimit) (hu : un + 10 < cLine) (hr : NetRead w s.heap a tl c) (hc : c.kinds.length ≤ 1000) (h1 : -1000 ≤ gg) (h2 : gg ≤ 1000) (hlt : (ab gg).toNat < c.kinds.length)
    (k : ∀ x t h' tk', Fr g L h' m → News g L h' news → c.kinds[(ab gg).toNat]? = some x → Q (.str x t) { s with heap := h', toks := tk' }) :
    wpAny (model PG w) (ar dp un gd (env :: fr)) (call (.ref 42) [.ref a.net, .int gg t0]) Q E s :=
  use_read (P₀ := fun g => NetRead w g a tl c) (PV := fun _ v _ => ∃ x t, v = .str x t ∧ c.kinds[(ab gg).toNat]? = some x) (kind_ctr w mean mg mb a tl c hc gg t0 h1 h2 hlt) B F X T N hf hke hd' hu hr
    fun v h' tk' F' N' _ p => by obtain ⟨x, t, rfl, hx⟩ := p; exact k x t h' tk' F' N' hx
theorem parts_use {gg : Int} {t0 : Tok}
    (B : Below A₀ base fr g) (F : Fr g L s.heap m) (X : (hd.heap_39 w.params).In g) (T : TT mean mg mb g) (N : News g L s.heap news) (hf : env.frame = some L) (hke : env.scope.kind = .function)
    (hd' : dp + 2 < recursionLimit) (hu : un + 10 < cLine) (hr : NetRead w s.heap a tl c) (hc : c.parts.length ≤ 1000) (h1 : -1000 ≤ gg) (h2 : gg ≤ 1000) (hlt : (ab gg).toNat < c.parts.length)
    (k : ∀ t o p h' tk', Fr g L h' m → News g L h' news → (t, o) ∈ tl → TupObj p o → c.parts[(ab gg).toNat]? = some p → Q (.ref t) { s with heap := h', toks := tk' }) :
    wpAny (model PG w) (ar dp un gd (env :: fr)) (call (.ref 49) [.ref a.net, .int gg t0]) Q E s :=
  use_read (P₀ := fun g => NetRead w g a tl c) (PV := fun _ v _ => ∃ t o p, v = .ref t ∧ (t, o) ∈ tl ∧ TupObj p o ∧ c.parts[(ab gg).toNat]? = some p) (parts_ctr w mean mg mb a tl c hc gg t0 h1 h2 hlt) B F X T N hf hke hd' hu hr
    fun v h' tk' F' N' _ p => by obtain ⟨t, o, p, rfl, hm, hp, hx⟩ := p; exact k t o p h' tk' F' N' hm hp hx
theorem size_use
    (B : Below A₀ base fr g) (F : Fr g L s.heap m) (X : (hd.heap_39 w.params).In g) (T : TT mean mg mb g) (N : News g L s.heap news) (hf : env.frame = some L) (hke : env.scope.kind = .function)
    (hd' : dp + 2 < recursionLimit) (hu : un + 10 < cLine) (hr : NetRead w s.heap a tl c) (hc : c.kinds.length ≤ 1000)
    (k : ∀ t h' tk', Fr g L h' m → News g L h' news → Q (.int ((c.kinds.length : Int) - 1) t) { s with heap := h', toks := tk' }) :
    wpAny (model PG w) (ar dp un gd (env :: fr)) (call (.ref 35) [.ref a.net]) Q E s :=
  use_read (P₀ := fun g => NetRead w g a tl c) (PV := fun _ v _ => ∃ t, v = .int ((c.kinds.length : Int) - 1) t) (size_ctr w mean mg mb a tl c hc) B F X T N hf hke hd' hu hr
    fun v h' tk' F' N' _ p => by obtain ⟨t, rfl⟩ := p; exact k t h' tk' F' N'
theorem ne_ints_n {x y : Addr} {xs ys : List Value} {n1 n2 : Nat} {ns ms : List Int} (N : News g L s.heap news) (m1 : (x, PySem.W.listOf (List.toArray xs) n1) ∈ news) (m2 : (y, PySem.W.listOf (List.toArray ys) n2) ∈ news) (hi : IntsAre xs ns) (hj : IntsAre ys ms)
    (hu : A.units + 64 < cLine) (k : Q (.bool (!decide (ns = ms))) s) : wpAny (model PG w) A (compareOp .NotEq (.ref x) (.ref y)) Q E s :=
  ke_ne_ints ⟨_, N.get m1, rfl, n1, rfl⟩ ⟨_, N.get m2, rfl, n2, rfl⟩ hi hj hu k
theorem tupAt_n {x : Addr} {o : Obj} {p : List Int} (N : News g L s.heap news) (hm : (x, o) ∈ news) (ho : TupObj p o) : TupAt s.heap x p := ⟨o, N.get hm, ho⟩
theorem tupAt_r {x : Addr} {o : Obj} {p : List Int} (hr : NetRead w s.heap a tl c) (hm : (x, o) ∈ tl) (ho : TupObj p o) : TupAt s.heap x p := ⟨o, hr.pool _ hm, ho⟩
theorem set_of_n {x : Addr} {vs : List Value} {ns : List Int} {n : Nat} (hh : A.handled = none) (F : Fr g L s.heap m) (N : News g L s.heap news)
    (hm : (x, PySem.W.listOf (List.toArray vs) n) ∈ news) (hi : IntsAre vs ns) (h4 : ns.length ≤ 4)
    (k : ∀ D h' o' tk, Fr g L h' m → News g L h' ((D, o') :: news) → (∀ q ∈ news, q.1 < D) → NeatO w o' (dd ns) → (dd ns).length ≤ ns.length → Q (.ref D) { s with heap := h', toks := tk }) :
    wpAny (model PG w) A (call (.type "set") [.ref x]) Q E s :=
  set_N hh F N (.inl ⟨_, N.get hm, rfl, n, rfl⟩) hi h4 fun D h' o' tk F' N' l hN => k D h' o' tk F' N' l hN (dd_le ns)
theorem len_v {l : Addr} {vs : List Value} {n : Nat} (N : News g L s.heap news) (hm : (l, PySem.W.listOf (List.toArray vs) n) ∈ news) (hz : vs.length ≤ 100000) (h : ∀ t tk, Q (.int (vs.length : Int) t) { s with toks := tk }) :
    wpAny (model PG w) A (call (.builtin "len") [.ref l]) Q E s :=
  len_n N hm (by simpa using hz) fun t tk => by simpa using h t tk
theorem item_ni {l : Addr} {value slice : Expr} {vs : List Value} {ns : List Int} {n : Nat} {k : Int} {u : Tok} (N : News g L s.heap news) (hm : (l, PySem.W.listOf (List.toArray vs) n) ∈ news) (hi : IntsAre vs ns) (h0 : 0 ≤ k) (hhi : k < 2 ^ 63) (hlt : k.toNat < ns.length)
    (h : ∀ t, Q (.int (ns.getD k.toNat 0) t) s)
    (hs : subscripted slice false (.ref l) (.int k u) = operate [.ref l, .int k u] (getItem (.ref l) (.int k u)) := by with_unfolding_all rfl) :
    wpAny (model PG w) A (subscriptTail value slice (.ref l) (.int k u)) Q E s :=
  item_n N hm h0 hhi (by have := hi.length; simp; omega) (fun v hv => by
    obtain ⟨t, rfl⟩ := hi.int_at k.toNat v (by simpa using hv)
    exact h t) hs
end
end Mine
end
-- text Comp
section
open PySem PySem.W PySem.Calls PyProof.Rows
set_option Elab.async false
set_option maxRecDepth 100000
set_option linter.unusedVariables false
namespace Mine
noncomputable def SrcSeq (h₀ : Heap) (ax : Addr) (vs : List Value) (nx : List (Addr × Obj)) : Prop := SeqIn h₀ ax vs ∨ ∃ n, (ax, PySem.W.listOf (List.toArray vs) n) ∈ nx
section
variable {w : World} {A : Around} {E : Value → Shared → Prop} {s : Shared} {env : Env} {h₀ : Heap} {L : Addr} {m : Str → Option Value} {news : List (Addr × Obj)} {ct elt iter : Expr} {ifs : List Expr} {x : Str} {px pos : Pos} {scope : Scope} {cl : List (Str × Addr)} {Q : Value → Shared → Prop}
noncomputable def CompAt (w : World) (A : Around) (E : Value → Shared → Prop) (env : Env) (scope : Scope) (cl : List (Str × Addr)) (e : Expr) (Q : Value → Shared → Prop) (it : Value) (s₂ : Shared) : Prop :=
  wpAny (model PG w) A (newList []) (fun acc s₃ => wpAny (model PG w) A (newFunctionEnv scope env.globals cl [] env.qual none .none (some env)) (fun cenv s₄ =>
      codeAny (model PG w) A (.compStart e 0 it acc { cenv with scope := relabel scope env }) (compPost (model PG w) A E none Q acc cenv.locals) s₄) E s₃) E s₂
theorem comp_open (hclos : closureFor scope env = pure cl) (hkind : scope.kind = .function) (hnames : ∀ y ∈ scope.names, y.2 = .local → scope.names.lookup y.1 = some .local)
    (h : wpAny (model PG w) A (eval iter env) (fun xv s₁ => wpAny (model PG w) A (pyIter xv) (fun it s₂ => CompAt w A E env scope cl (.ListComp elt [⟨.Name x px, iter, ifs, 0⟩] scope pos) Q it s₂) E s₁) E s)
    (hs : ∀ x, foldedSetIterable iter env x = pure x) :
    wpAny (model PG w) A (eval (.ListComp elt [⟨.Name x px, iter, ifs, 0⟩] scope pos) env) Q E s := by
  rw [eval_ListComp]
  exact wpAny_comprehension_free (use := none) rfl hs hclos hkind hnames h
noncomputable def TEnd (h₀ : Heap) (L : Addr) (m : Str → Option Value) (s₁ : Shared) (I : Addr) (oI : Obj) (C : Addr) (oC : Obj) (D : Addr) (ys : List Value) (J : Value → List (Addr × Obj) → Prop) (y : Value) (s₂ : Shared) : Prop :=
  ∃ h' tk nx', s₂ = { s₁ with heap := h', toks := tk } ∧ Fr h₀ L h' m ∧ News h₀ L h' ((I, oI) :: (C, oC) :: (D, LCg.lst ys) :: nx') ∧ LCg.Off3 I C D nx' ∧ J y nx'
theorem TEnd.intro {s₁ : Shared} {I C D : Addr} {oI oC : Obj} {ys : List Value} {J : Value → List (Addr × Obj) → Prop} {y : Value} {h' : Heap} {tk : Nat} {nx' : List (Addr × Obj)} (F : Fr h₀ L h' m) (N : News h₀ L h' ((I, oI) :: (C, oC) :: (D, LCg.lst ys) :: nx')) (o : LCg.Off3 I C D nx') (j : J y nx') :
    TEnd h₀ L m s₁ I oI C oC D ys J y { s₁ with heap := h', toks := tk } := ⟨h', tk, nx', rfl, F, N, o, j⟩
/-- one turn of a comprehension with a test -/
noncomputable abbrev TurnT (w : World) (A : Around) (h₀ : Heap) (L : Addr) (m : Str → Option Value) (env : Env) (ct elt : Expr) (x : Str) (scope : Scope) (cl : List (Str × Addr)) (s : Shared) (P : Nat → Value → Prop) (n : Nat) (J : Nat → List Value → List (Addr × Obj) → Prop) : Prop :=
  ∀ i v I oI C oC D m₂ h tk (E' : Value → Shared → Prop) ys nx, i < n → P i v → LCg.NsObj oC m₂ → m₂ x = some v → Fr h₀ L h m → News h₀ L h ((I, oI) :: (C, oC) :: (D, LCg.lst ys) :: nx) → LCg.Off3 I C D nx → ((@Ne Nat I C) ∧ (@Ne Nat I D) ∧ (@Ne Nat C D)) → J i ys nx →
      wpAny (model PG w) A (isTrue ct (compEnvC scope cl C env) (eval ct (compEnvC scope cl C env))) (fun ok s' => if ok = true then
        wpAny (model PG w) A (eval elt (compEnvC scope cl C env)) (TEnd h₀ L m { s with heap := h, toks := tk } I oI C oC D ys (fun y nx' => J (i + 1) (ys ++ [y]) nx')) E' s'
        else TEnd h₀ L m { s with heap := h, toks := tk } I oI C oC D ys (fun _ nx' => J (i + 1) ys nx') Value.none s') E' { s with heap := h, toks := tk }
noncomputable abbrev TurnU (w : World) (A : Around) (h₀ : Heap) (L : Addr) (m : Str → Option Value) (env : Env) (elt : Expr) (x : Str) (scope : Scope) (cl : List (Str × Addr)) (s : Shared) (P : Nat → Value → Prop) (n : Nat) (J : Nat → List Value → List (Addr × Obj) → Prop) : Prop :=
  ∀ i v I oI C oC D m₂ h tk (E' : Value → Shared → Prop) ys nx, i < n → P i v → LCg.NsObj oC m₂ → m₂ x = some v → Fr h₀ L h m → News h₀ L h ((I, oI) :: (C, oC) :: (D, LCg.lst ys) :: nx) → LCg.Off3 I C D nx → ((@Ne Nat I C) ∧ (@Ne Nat I D) ∧ (@Ne Nat C D)) → J i ys nx →
      wpAny (model PG w) A (eval elt (compEnvC scope cl C env)) (TEnd h₀ L m { s with heap := h, toks := tk } I oI C oC D ys (fun y nx' => J (i + 1) (ys ++ [y]) nx')) E' { s with heap := h, toks := tk }
theorem TEnd.to {s₁ s₂ : Shared} {I C D : Addr} {oI oC : Obj} {ys : List Value} {J : Value → List (Addr × Obj) → Prop} {S : List (Addr × Obj) → Prop} {rest : Value → List (Addr × Obj) → Prop} {y : Value} (h : TEnd h₀ L m s₁ I oI C oC D ys J y s₂) (hS : ∀ nx, J y nx → S nx) (hr : ∀ nx, J y nx → rest y nx) :
    LCg.CompEnd h₀ L m s₁ I oI C oC D (LCg.lst ys) S rest y s₂ := by
  obtain ⟨h', tk, nx', rfl, F, N, o, j⟩ := h
  exact ⟨h', tk, nx', rfl, F, N, o, hS _ j, hr _ j⟩
theorem restT {P : Nat → Value → Prop} {S : List (Addr × Obj) → Prop} {Fin : List Value → List (Addr × Obj) → Prop} {n : Nat} {J : Nat → List Value → List (Addr × Obj) → Prop} (turn : TurnT w A h₀ L m env ct elt x scope cl s P n J) (hS : ∀ i ys nx, J i ys nx → S nx) (done : ∀ ys nx, J n ys nx → Fin ys nx) :
    ∀ k i ys nx, i + k = n → J i ys nx → LCt.CompRestT PG w A h₀ L m env ct elt x scope cl s S P Fin k i ys nx
  | 0, i, ys, nx, hi, hj => by
    have e : i = n := by omega
    subst e
    exact LCt.CompRestT.zero (done _ _ hj)
  | k + 1, i, ys, nx, hi, hj => by
    refine LCt.CompRestT.succ fun v I oI C oC D m₂ h tk E' hP hC hx F N off ne => ?_
    refine wpAny_mono (turn i v I oI C oC D m₂ h tk E' ys nx (by omega) hP hC hx F N off ne hj) (fun ok s' hok => ?_) fun _ _ e => e
    cases ok with
    | true =>
      simp only [if_true] at hok ⊢
      exact wpAny_mono hok (fun y s₂ hy => hy.to (fun nx hj => hS _ _ _ hj) fun nx hj => restT turn hS done k (i + 1) _ _ (by omega) hj) fun _ _ e => e
    | false =>
      simp only [Bool.false_eq_true, if_false] at hok ⊢
      exact hok.to (fun nx hj => hS _ _ _ hj) fun nx hj => restT turn hS done k (i + 1) _ _ (by omega) hj
theorem restU {P : Nat → Value → Prop} {S : List (Addr × Obj) → Prop} {Fin : List Value → List (Addr × Obj) → Prop} {n : Nat} {J : Nat → List Value → List (Addr × Obj) → Prop} (turn : TurnU w A h₀ L m env elt x scope cl s P n J) (hS : ∀ i ys nx, J i ys nx → S nx) (done : ∀ ys nx, J n ys nx → Fin ys nx) :
    ∀ k i ys nx, i + k = n → J i ys nx → LCg.CompRest PG w A h₀ L m env elt x scope cl s S P Fin k i ys nx
  | 0, i, ys, nx, hi, hj => by
    have e : i = n := by omega
    subst e
    exact LCg.CompRest.zero (done _ _ hj)
  | k + 1, i, ys, nx, hi, hj => by
    refine LCg.CompRest.succ fun v I oI C oC D m₂ h tk E' hP hC hx F N off ne => ?_
    exact wpAny_mono (turn i v I oI C oC D m₂ h tk E' ys nx (by omega) hP hC hx F N off ne hj) (fun y s₂ hy => hy.to (fun nx hj => hS _ _ _ hj) fun nx hj => restU turn hS done k (i + 1) _ _ (by omega) hj) fun _ _ e => e

/-- what is behind a comprehension -/
noncomputable abbrev CompDone (h₀ : Heap) (L : Addr) (m : Str → Option Value) (s : Shared) (n : Nat) (J : Nat → List Value → List (Addr × Obj) → Prop) (Q : Value → Shared → Prop) : Prop :=
  ∀ D h tk ys nx, J n ys nx → Fr h₀ L h m → News h₀ L h ((D, LCg.lst ys) :: nx) → LCg.Off1 D nx → Q (.ref D) { s with heap := h, toks := tk }
theorem post_of {J : Nat → List Value → List (Addr × Obj) → Prop} {n : Nat} {s₂ : Shared} (done : CompDone h₀ L m s₂ n J Q) :
    ∀ D C h tk m' ys news', Fr h₀ L h m → News h₀ L h ((D, LCg.lst ys) :: news') → LCg.Off1 D news' → h.Ns C m' → h₀.get? C = none → h₀.get? D = none → C ≠ L → D ≠ L → C ≠ D → (∀ p ∈ news', p.1 ≠ C) → J n ys news' →
      compPost (model PG w) A E none Q (.ref D) C (.ok .next) { s₂ with heap := h, toks := tk } := by
  intro D C h tk m' ys news' F' N' o1 hn hC₀ hD₀ hCL hDL hCD offC fin
  refine ⟨m', hn, fun h'' hs'' => done D h'' tk ys news' fin (F'.change hs'' hCL hC₀) (fun p hp => ?_) o1⟩
  refine ⟨hs''.extBut _ _ ?_ (N' p hp).1, (N' p hp).2⟩
  rcases List.mem_cons.mp hp with rfl | hp
  · exact Ne.symm hCD
  · exact offC p hp
end
end Mine
end
-- text Comp2
section
open PySem PySem.W PySem.Calls PyProof.Rows
set_option Elab.async false
set_option maxRecDepth 100000
set_option linter.unusedVariables false
namespace Mine
section
variable {w : World} {A : Around} {E : Value → Shared → Prop} {s : Shared} {env : Env} {h₀ : Heap} {L : Addr} {m : Str → Option Value} {news : List (Addr × Obj)} {ct elt iter : Expr} {ifs : List Expr} {x : Str} {px pos : Pos} {scope : Scope} {cl : List (Str × Addr)} {Q : Value → Shared → Prop}
theorem N0_absurd {ax : Addr} {o o' : Obj} {h : Heap} (ho : h₀.get? ax = some o) (hm : (ax, o') ∈ news) (N : News h₀ L h news) : False := by
  have := (N _ hm).2.2
  rw [ho] at this; cases this
theorem src_list {ax : Addr} {vs : List Value} {h : Heap} {nx : List (Addr × Obj)} (hs : SrcSeq h₀ ax vs nx) (k : ∀ b o, h₀.get? b = some o → h.get? b = some o) (N : News h₀ L h nx) : h.IsList ax (List.toArray vs) ∨ IsTup h ax (List.toArray vs) := by
  rcases hs with (⟨o, ho, r⟩ | ⟨o, ho, r⟩) | ⟨n, hm⟩
  · exact .inl ⟨o, k _ _ ho, r⟩
  · exact .inr ⟨o, k _ _ ho, r⟩
  · exact .inl ⟨_, N.get hm, rfl, n, rfl⟩
/-- the walk of a list or of a tuple, at once -/
theorem seq_walk {ax : Addr} {vs : List Value} {C : Value → Shared → Prop} (hh : A.handled = none) (hl : SrcSeq h₀ ax vs news) (F : Fr h₀ L s.heap m) (N : News h₀ L s.heap news)
    (k : ∀ (oI : Obj) (St : Nat → Heap → Prop), Walks PG w A s.heap.objs.size [s.heap.objs.size, ax] [s.heap.objs.size] vs.length (fun i v => vs[i]? = some v) St → (∀ i h, St i h → ∃ o, h.get? s.heap.objs.size = some o) →
      (∀ i h h' o nw, St i h → h.get? s.heap.objs.size = some o → h'.get? s.heap.objs.size = some o → (∀ b o, h₀.get? b = some o → h'.get? b = some o) → News h₀ L h' nw → SrcSeq h₀ ax vs nw → St i h') →
      St 0 (s.heap.push oI) → ax < s.heap.objs.size → C (.ref s.heap.objs.size) { s with heap := s.heap.push oI }) : wpAny (model PG w) A (pyIter (.ref ax)) C E s := by
  rcases hl with (⟨o, ho, r⟩ | ⟨o, ho, r⟩) | ⟨n, hm⟩
  · have hls : s.heap.IsList ax vs.toArray := ⟨o, F.keep _ _ ho, r⟩
    have hlt : ax < s.heap.objs.size := Heap.lt_size (F.keep _ _ ho)
    refine wpAny_pyIter_list hls ?_
    have W := Walks.list (prog := PG) (w := w) hh s.heap.objs.size ax (Nat.ne_of_lt hlt) vs.toArray
    have e : vs.toArray.size = vs.length := by simp
    rw [e] at W
    refine k _ (fun i h => h.IsListIter s.heap.objs.size ax i ∧ h.IsList ax vs.toArray) { sub := W.sub, frame := W.frame, item := fun i s Q E hi st hQ => W.item i s Q E hi st fun v h' tk hP => hQ v h' tk (by simpa using hP), done := W.done, self := W.self } (fun i h st => let ⟨⟨o, e, _⟩, _⟩ := st; ⟨o, e⟩) (fun i h h' o' nw st e e' kk N S => ⟨?_, ⟨o, kk _ _ ho, r⟩⟩) ⟨⟨_, Heap.get?_push_size _ rfl, rfl, rfl⟩, hls.push _⟩ hlt
    obtain ⟨o'', q, r'⟩ := st.1
    rw [e] at q; cases q
    exact ⟨_, e', r'⟩
  · have hls : s.heap.IsTuple ax vs.toArray := ⟨o, F.keep _ _ ho, r⟩
    have hlt : ax < s.heap.objs.size := Heap.lt_size (F.keep _ _ ho)
    refine wpAny_pyIter_tuple hls ?_
    have W := Walks.tuple (prog := PG) (w := w) hh s.heap.objs.size ax (Nat.ne_of_lt hlt) vs.toArray
    have e : vs.toArray.size = vs.length := by simp
    rw [e] at W
    refine k _ (fun i h => h.IsTupleIter s.heap.objs.size ax i ∧ h.IsTuple ax vs.toArray) { sub := W.sub, frame := W.frame, item := fun i s Q E hi st hQ => W.item i s Q E hi st fun v h' tk hP => hQ v h' tk (by simpa using hP), done := W.done, self := W.self } (fun i h st => let ⟨⟨o, e, _⟩, _⟩ := st; ⟨o, e⟩) (fun i h h' o' nw st e e' kk N S => ⟨?_, ⟨o, kk _ _ ho, r⟩⟩) ⟨⟨_, Heap.get?_push_size _ rfl, rfl, rfl⟩, hls.at fun o e => Heap.get?_push_of_some _ e⟩ hlt
    obtain ⟨o'', q, r'⟩ := st.1
    rw [e] at q; cases q
    exact ⟨_, e', r'⟩
  · have hls : s.heap.IsList ax vs.toArray := ⟨_, N.get hm, rfl, n, rfl⟩
    have hlt : ax < s.heap.objs.size := Heap.lt_size (N.get hm)
    refine wpAny_pyIter_list hls ?_
    have W := Walks.list (prog := PG) (w := w) hh s.heap.objs.size ax (Nat.ne_of_lt hlt) vs.toArray
    have e : vs.toArray.size = vs.length := by simp
    rw [e] at W
    refine k _ (fun i h => h.IsListIter s.heap.objs.size ax i ∧ h.IsList ax vs.toArray) { sub := W.sub, frame := W.frame, item := fun i s Q E hi st hQ => W.item i s Q E hi st fun v h' tk hP => hQ v h' tk (by simpa using hP), done := W.done, self := W.self } (fun i h st => let ⟨⟨o, e, _⟩, _⟩ := st; ⟨o, e⟩) (fun i h h' o' nw st e e' kk N2 S => ⟨?_, ?_⟩) ⟨⟨_, Heap.get?_push_size _ rfl, rfl, rfl⟩, hls.push _⟩ hlt
    · obtain ⟨o'', q, r'⟩ := st.1
      rw [e] at q; cases q
      exact ⟨_, e', r'⟩
    · rcases S with (⟨o2, ho2, r2⟩ | ⟨o2, ho2, r2⟩) | ⟨n2, hm2⟩
      · exact ⟨o2, kk _ _ ho2, r2⟩
      · exact (N0_absurd ho2 hm N).elim
      · exact ⟨_, N2.get hm2, rfl, n2, rfl⟩
theorem comp_seq_T {ax : Addr} {vs : List Value} (J : Nat → List Value → List (Addr × Obj) → Prop) (hh : A.handled = none) (hcell : ∀ y ∈ scope.names, y.2 ≠ .cell) (hkind : scope.kind = .function) (hx : scope.names.lookup x = some .local)
    (hl : SrcSeq h₀ ax vs news) (hz : vs.length ≤ sizeLine) (F : Fr h₀ L s.heap m) (N : News h₀ L s.heap news) (hj : J 0 [] news) (hS : ∀ i ys nx, J i ys nx → SrcSeq h₀ ax vs nx)
    (turn : TurnT w A h₀ L m env ct elt x scope cl s (fun i v => vs[i]? = some v) vs.length J)
    (done : CompDone h₀ L m s vs.length J Q) :
    wpAny (model PG w) A (pyIter (.ref ax)) (fun it s₂ => CompAt w A E env scope cl (.ListComp elt [⟨.Name x px, iter, [ct], 0⟩] scope pos) Q it s₂) E s := by
  refine seq_walk hh hl F N fun oI St W hIo hSt hst hlt => ?_
  have up : ∀ b o, s.heap.get? b = some o → (s.heap.push oI).get? b = some o := fun b o e => Heap.get?_push_of_some _ e
  refine LCt.block_T (Fin := fun ys nx => J vs.length ys nx) W hz hIo hSt hcell hkind hx hst (fun b hb => ?_) (F.keeps up) (N.grown up) (Nat.ne_of_lt F.ns.lt) (next_is_new F) (fun p hp => Nat.ne_of_lt (Heap.lt_size (N p hp).1)) (hS _ _ _ hj)
    (restT (s := { s with heap := s.heap.push oI }) (n := vs.length) (J := J) turn hS (fun _ _ h => h) vs.length 0 [] news (by omega) hj) (post_of done)
  show b < (s.heap.push _).objs.size
  rw [Heap.size_push]
  rcases List.mem_cons.mp hb with rfl | hb
  · exact Nat.lt_succ_self _
  · rw [List.mem_singleton.mp hb]; exact Nat.lt_succ_of_lt hlt
theorem comp_seq_U {ax : Addr} {vs : List Value} (J : Nat → List Value → List (Addr × Obj) → Prop) (hh : A.handled = none) (hcell : ∀ y ∈ scope.names, y.2 ≠ .cell) (hkind : scope.kind = .function) (hx : scope.names.lookup x = some .local)
    (hl : SrcSeq h₀ ax vs news) (hz : vs.length ≤ sizeLine) (F : Fr h₀ L s.heap m) (N : News h₀ L s.heap news) (hj : J 0 [] news) (hS : ∀ i ys nx, J i ys nx → SrcSeq h₀ ax vs nx)
    (turn : TurnU w A h₀ L m env elt x scope cl s (fun i v => vs[i]? = some v) vs.length J)
    (done : CompDone h₀ L m s vs.length J Q) :
    wpAny (model PG w) A (pyIter (.ref ax)) (fun it s₂ => CompAt w A E env scope cl (.ListComp elt [⟨.Name x px, iter, [], 0⟩] scope pos) Q it s₂) E s := by
  refine seq_walk hh hl F N fun oI St W hIo hSt hst hlt => ?_
  have up : ∀ b o, s.heap.get? b = some o → (s.heap.push oI).get? b = some o := fun b o e => Heap.get?_push_of_some _ e
  refine LCg.block_U (Fin := fun ys nx => J vs.length ys nx) W hz hIo hSt hcell hkind hx hst (fun b hb => ?_) (F.keeps up) (N.grown up) (Nat.ne_of_lt F.ns.lt) (next_is_new F) (fun p hp => Nat.ne_of_lt (Heap.lt_size (N p hp).1)) (hS _ _ _ hj)
    (restU (s := { s with heap := s.heap.push oI }) (n := vs.length) (J := J) turn hS (fun _ _ h => h) vs.length 0 [] news (by omega) hj) (post_of done)
  show b < (s.heap.push _).objs.size
  rw [Heap.size_push]
  rcases List.mem_cons.mp hb with rfl | hb
  · exact Nat.lt_succ_self _
  · rw [List.mem_singleton.mp hb]; exact Nat.lt_succ_of_lt hlt
theorem comp_range_U {r : Addr} {a b : Int} {t u v : Tok} {n : Nat} (J : Nat → List Value → List (Addr × Obj) → Prop) (hh : A.handled = none) (hcell : ∀ y ∈ scope.names, y.2 ≠ .cell) (hkind : scope.kind = .function) (hx : scope.names.lookup x = some .local)
    (hr : IsRange s.heap r a b 1 t u v) (hsm : Builtin.Range.small a b 1 = true) (hn : Builtin.Range.rangeSize a b 1 = ((n : Nat) : Int)) (hz : n ≤ sizeLine) (F : Fr h₀ L s.heap m) (N : News h₀ L s.heap news) (hj : J 0 [] news)
    (turn : TurnU w A h₀ L m env elt x scope cl s (fun i v => ∃ t, v = .int (a + (i : Int)) t) n J)
    (done : CompDone h₀ L m s n J Q) :
    wpAny (model PG w) A (pyIter (.ref r)) (fun it s₂ => CompAt w A E env scope cl (.ListComp elt [⟨.Name x px, iter, [], 0⟩] scope pos) Q it s₂) E s := by
  refine wpAny_pyIter_range hr hsm ?_
  refine LCg.block_U (S := fun _ => True) (Fin := fun ys nx => J n ys nx) (LCg.range_walks hh a n) hz (fun i h st => ⟨_, st⟩) LCg.range_st hcell hkind hx (by show IsRangeIter _ _ _ _ _; rw [hn]; simpa using Heap.get?_push_size _ rfl) (fun b hb => ?_)
    (F.keeps fun _ _ e => Heap.get?_push_of_some _ e) (N.grown fun _ _ e => Heap.get?_push_of_some _ e) (Nat.ne_of_lt F.ns.lt) (next_is_new F) (fun p hp => Nat.ne_of_lt (Heap.lt_size (N p hp).1)) trivial
    (restU (s := { s with heap := s.heap.push _ }) (n := n) (J := J) turn (fun _ _ _ _ => trivial) (fun _ _ h => h) n 0 [] news (by omega) hj) (post_of done)
  rw [List.mem_singleton.mp hb]
  show s.heap.objs.size < (s.heap.push _).objs.size
  rw [Heap.size_push]; exact Nat.lt_succ_self _
end
end Mine
end
-- text Comp3
section
open PySem PySem.W PySem.Calls PyProof.Rows
set_option Elab.async false
set_option maxRecDepth 100000
set_option linter.unusedVariables false
namespace Mine
section
variable {w : World} {A : Around} {E : Value → Shared → Prop} {s : Shared} {env : Env} {h₀ : Heap} {L : Addr} {m : Str → Option Value} {news : List (Addr × Obj)} {ct elt iter : Expr} {ifs : List Expr} {x y : Str} {px py pos spos : Pos} {scope : Scope} {cl : List (Str × Addr)} {Q : Flow → Shared → Prop}
/-- as CompAt, and the list made goes to a name -/
noncomputable def CompAtA (w : World) (A : Around) (E : Value → Shared → Prop) (env : Env) (scope : Scope) (cl : List (Str × Addr)) (e : Expr) (y : Str) (py : Pos) (Q : Flow → Shared → Prop) (it : Value) (s₂ : Shared) : Prop :=
  wpAny (model PG w) A (newList []) (fun acc s₃ => wpAny (model PG w) A (newFunctionEnv scope env.globals cl [] env.qual none .none (some env)) (fun cenv s₄ =>
      codeAny (model PG w) A (.compStart e 0 it acc { cenv with scope := relabel scope env }) (compPost (model PG w) A E (some (assign (.Name y py) env)) (fun _ s' => Q .next s') acc cenv.locals) s₄) E s₃) E s₂
theorem comp_openA (hsw : swapsWith (.ListComp elt [⟨.Name x px, iter, ifs, 0⟩] scope pos) (some (.Name y py)) spos.line env = pure true)
    (hclos : closureFor scope env = pure cl) (hkind : scope.kind = .function) (hnames : ∀ y ∈ scope.names, y.2 = .local → scope.names.lookup y.1 = some .local)
    (h : wpAny (model PG w) A (eval iter env) (fun xv s₁ => wpAny (model PG w) A (pyIter xv) (fun it s₂ => CompAtA w A E env scope cl (.ListComp elt [⟨.Name x px, iter, ifs, 0⟩] scope pos) y py Q it s₂) E s₁) E s)
    (hs : ∀ x, foldedSetIterable iter env x = pure x) :
    wpAny (model PG w) A (exec (.Assign [.Name y py] (.ListComp elt [⟨.Name x px, iter, ifs, 0⟩] scope pos) spos) env) Q E s := by
  rw [exec_Assign_Name_used _ _ _ _ hsw]
  refine wpAny_bind (wpAny_standAt (wpAny_bind ?_))
  show wpAny _ A (do let _ ← comprehension (.ListComp elt [⟨.Name x px, iter, ifs, 0⟩] scope pos) scope env _ (newList []) false (eval iter env) (some (assign (.Name y py) env))) _ _ s
  exact wpAny_bind (wpAny_mono (wpAny_comprehension_free (use := some (assign (.Name y py) env)) (Q := fun _ s' => Q .next s') rfl hs hclos hkind hnames h) (fun _ s' hq => wpAny_pure (wpAny_pure hq)) fun _ _ e => e)
noncomputable abbrev CompDoneA (h₀ : Heap) (L : Addr) (m : Str → Option Value) (s : Shared) (y : Str) (n : Nat) (J : Nat → List Value → List (Addr × Obj) → Prop) (Q : Flow → Shared → Prop) : Prop :=
  ∀ D h tk ys nx, J n ys nx → Fr h₀ L h (fun z => if z = y then some (.ref D) else m z) → News h₀ L h ((D, LCg.lst ys) :: nx) → LCg.Off1 D nx → Q .next { s with heap := h, toks := tk }
theorem post_ofA {J : Nat → List Value → List (Addr × Obj) → Prop} {n : Nat} {s₂ : Shared} (hL : env.locals = L) (hy : env.kindOf y = some .local) (hp : (env.scope.kind == .class || (env.scope.kind == .module && env.locals != env.globals)) = false) (done : CompDoneA h₀ L m s₂ y n J Q) :
    ∀ D C h tk m' ys news', Fr h₀ L h m → News h₀ L h ((D, LCg.lst ys) :: news') → LCg.Off1 D news' → h.Ns C m' → h₀.get? C = none → h₀.get? D = none → C ≠ L → D ≠ L → C ≠ D → (∀ p ∈ news', p.1 ≠ C) → J n ys news' →
      compPost (model PG w) A E (some (assign (.Name y py) env)) (fun _ s' => Q .next s') (.ref D) C (.ok .next) { s₂ with heap := h, toks := tk } := by
  subst hL
  intro D C h' tk m' ys news' F' N' o1 hn hC₀ hD₀ hCL hDL hCD offC fin
  show wpAny _ A (assign (.Name y py) env (.ref D)) _ _ _
  refine wpAny_assign_Name (wpAny_storeName_local hy F'.ns (fun h₂ hn₂ hs₂ => ?_) hp)
  have hL₀ : h₀.get? env.locals = none := Heap.get?_none_of_le F'.above
  have F₂ : Fr h₀ env.locals h₂ (fun z => if z = y then some (.ref D) else m z) := ⟨hn₂, fun b o e => hs₂.extBut b o (fun q => by rw [q, hL₀] at e; cases e) (F'.keep b o e), F'.above⟩
  refine ⟨m', hn.sameBut hs₂ hCL, fun h'' hs'' => done D h'' _ ys news' fin (F₂.change hs'' hCL hC₀) (fun p hp => ?_) o1⟩
  have z : h₂.get? p.1 = some p.2 := hs₂.extBut _ _ (N' p hp).2.1 (N' p hp).1
  refine ⟨hs''.extBut _ _ ?_ z, (N' p hp).2⟩
  rcases List.mem_cons.mp hp with rfl | hp
  · exact Ne.symm hCD
  · exact offC p hp
theorem comp_seq_UA {ax : Addr} {vs : List Value} (J : Nat → List Value → List (Addr × Obj) → Prop) (hh : A.handled = none) (hcell : ∀ y ∈ scope.names, y.2 ≠ .cell) (hkind : scope.kind = .function) (hx : scope.names.lookup x = some .local)
    (hL : env.locals = L) (hy : env.kindOf y = some .local) (hp : (env.scope.kind == .class || (env.scope.kind == .module && env.locals != env.globals)) = false)
    (hl : SrcSeq h₀ ax vs news) (hz : vs.length ≤ sizeLine) (F : Fr h₀ L s.heap m) (N : News h₀ L s.heap news) (hj : J 0 [] news) (hS : ∀ i ys nx, J i ys nx → SrcSeq h₀ ax vs nx)
    (turn : TurnU w A h₀ L m env elt x scope cl s (fun i v => vs[i]? = some v) vs.length J)
    (done : CompDoneA h₀ L m s y vs.length J Q) :
    wpAny (model PG w) A (pyIter (.ref ax)) (fun it s₂ => CompAtA w A E env scope cl (.ListComp elt [⟨.Name x px, iter, [], 0⟩] scope pos) y py Q it s₂) E s := by
  refine seq_walk hh hl F N fun oI St W hIo hSt hst hlt => ?_
  have up : ∀ b o, s.heap.get? b = some o → (s.heap.push oI).get? b = some o := fun b o e => Heap.get?_push_of_some _ e
  refine LCg.block_U (Fin := fun ys nx => J vs.length ys nx) W hz hIo hSt hcell hkind hx hst (fun b hb => ?_) (F.keeps up) (N.grown up) (Nat.ne_of_lt F.ns.lt) (next_is_new F) (fun p hp => Nat.ne_of_lt (Heap.lt_size (N p hp).1)) (hS _ _ _ hj)
    (restU (s := { s with heap := s.heap.push oI }) (n := vs.length) (J := J) turn hS (fun _ _ h => h) vs.length 0 [] news (by omega) hj) (post_ofA hL hy hp done)
  show b < (s.heap.push _).objs.size
  rw [Heap.size_push]
  rcases List.mem_cons.mp hb with rfl | hb
  · exact Nat.lt_succ_self _
  · rw [List.mem_singleton.mp hb]; exact Nat.lt_succ_of_lt hlt
theorem comp_range_UA {r : Addr} {a b : Int} {t u v : Tok} {n : Nat} (J : Nat → List Value → List (Addr × Obj) → Prop) (hh : A.handled = none) (hcell : ∀ y ∈ scope.names, y.2 ≠ .cell) (hkind : scope.kind = .function) (hx : scope.names.lookup x = some .local)
    (hL : env.locals = L) (hy : env.kindOf y = some .local) (hp : (env.scope.kind == .class || (env.scope.kind == .module && env.locals != env.globals)) = false)
    (hr : IsRange s.heap r a b 1 t u v) (hsm : Builtin.Range.small a b 1 = true) (hn : Builtin.Range.rangeSize a b 1 = ((n : Nat) : Int)) (hz : n ≤ sizeLine) (F : Fr h₀ L s.heap m) (N : News h₀ L s.heap news) (hj : J 0 [] news)
    (turn : TurnU w A h₀ L m env elt x scope cl s (fun i v => ∃ t, v = .int (a + (i : Int)) t) n J)
    (done : CompDoneA h₀ L m s y n J Q) :
    wpAny (model PG w) A (pyIter (.ref r)) (fun it s₂ => CompAtA w A E env scope cl (.ListComp elt [⟨.Name x px, iter, [], 0⟩] scope pos) y py Q it s₂) E s := by
  refine wpAny_pyIter_range hr hsm ?_
  refine LCg.block_U (S := fun _ => True) (Fin := fun ys nx => J n ys nx) (LCg.range_walks hh a n) hz (fun i h st => ⟨_, st⟩) LCg.range_st hcell hkind hx (by show IsRangeIter _ _ _ _ _; rw [hn]; simpa using Heap.get?_push_size _ rfl) (fun b hb => ?_)
    (F.keeps fun _ _ e => Heap.get?_push_of_some _ e) (N.grown fun _ _ e => Heap.get?_push_of_some _ e) (Nat.ne_of_lt F.ns.lt) (next_is_new F) (fun p hp => Nat.ne_of_lt (Heap.lt_size (N p hp).1)) trivial
    (restU (s := { s with heap := s.heap.push _ }) (n := n) (J := J) turn (fun _ _ _ _ => trivial) (fun _ _ h => h) n 0 [] news (by omega) hj) (post_ofA hL hy hp done)
  rw [List.mem_singleton.mp hb]
  show s.heap.objs.size < (s.heap.push _).objs.size
  rw [Heap.size_push]; exact Nat.lt_succ_self _
end
end Mine
end
-- text CompC
section
open PySem PySem.W PySem.Calls PyProof.Rows
set_option Elab.async false
set_option maxRecDepth 100000
set_option linter.unusedVariables false
namespace Mine
noncomputable abbrev cellObj (v : Option Value) : Obj := { cls := .type "cell", data := .cell v }
noncomputable abbrev dictObj : Obj := { cls := .type "dict", data := .dict #[] }
section
variable {w : World} {A : Around} {E : Value → Shared → Prop} {s : Shared} {env : Env} {h₀ : Heap} {L : Addr} {m : Str → Option Value} {news : List (Addr × Obj)} {elt iter : Expr} {x : Str} {px pos : Pos} {scope : Scope} {cl : List (Str × Addr)} {Q : Value → Shared → Prop}
theorem newEnv_C {Q : Env → Shared → Prop} (hcs : ∀ n acc, cellsFrom n scope.names acc = (x, n) :: acc) (hpc : ∀ h, pushCells h scope.names = h.push (cellObj none))
    (h : Q { scope := scope, locals := s.heap.objs.size, globals := env.globals, cells := (x, s.heap.objs.size + 1) :: cl, qual := env.qual, func := none, code := env.code, frame := env.frame, builtins := env.builtins } { s with heap := (s.heap.push dictObj).push (cellObj none) }) :
    wpAny (model PG w) A (newFunctionEnv scope env.globals cl [] env.qual none .none (some env)) Q E s := by
  simp only [newFunctionEnv, Option.isSome_some, if_true]
  refine wpAny_bind (wpAny_alloc ?_)
  refine wpAny_bind (wpAny_layCells _ (fun name kind cells => by cases hkc : kind == NameKind.cell <;> simp [hkc]) _ _ _ _ ?_)
  rw [hcs, hpc]
  rw [show ({ s with heap := s.heap.push { cls := .type "dict", data := .dict #[] } } : Shared).heap.objs.size = s.heap.objs.size + 1 from Heap.size_push ..]
  exact wpAny_bind (wpAny_pure (wpAny_pure h))
noncomputable abbrev rangeIt (a n : Int) : Obj := { cls := .type "range_iterator", data := .fields #[rawInt a, rawInt n, rawInt 1] }
noncomputable def Off4 (I C K D : Addr) (nx : List (Addr × Obj)) : Prop := ∀ p ∈ nx, (@Ne Nat p.1 I) ∧ (@Ne Nat p.1 C) ∧ (@Ne Nat p.1 K) ∧ (@Ne Nat p.1 D)
noncomputable def TEndC (h₀ : Heap) (L : Addr) (m : Str → Option Value) (s₁ : Shared) (I : Addr) (oI : Obj) (C : Addr) (oC : Obj) (K : Addr) (oK : Obj) (D : Addr) (ys : List Value) (J : Value → List (Addr × Obj) → Prop) (y : Value) (s₂ : Shared) : Prop :=
  ∃ h' tk nx', s₂ = { s₁ with heap := h', toks := tk } ∧ Fr h₀ L h' m ∧ News h₀ L h' ((I, oI) :: (C, oC) :: (K, oK) :: (D, LCg.lst ys) :: nx') ∧ Off4 I C K D nx' ∧ J y nx'
theorem TEndC.intro {s₁ : Shared} {I C K D : Addr} {oI oC oK : Obj} {ys : List Value} {J : Value → List (Addr × Obj) → Prop} {y : Value} {h' : Heap} {tk : Nat} {nx' : List (Addr × Obj)} (F : Fr h₀ L h' m) (N : News h₀ L h' ((I, oI) :: (C, oC) :: (K, oK) :: (D, LCg.lst ys) :: nx')) (o : Off4 I C K D nx') (j : J y nx') :
    TEndC h₀ L m s₁ I oI C oC K oK D ys J y { s₁ with heap := h', toks := tk } := ⟨h', tk, nx', rfl, F, N, o, j⟩
noncomputable abbrev TurnC (w : World) (A : Around) (h₀ : Heap) (L : Addr) (m : Str → Option Value) (env : Env) (elt : Expr) (x : Str) (scope : Scope) (cl : List (Str × Addr)) (s : Shared) (a : Int) (n : Nat) (J : Nat → List Value → List (Addr × Obj) → Prop) : Prop :=
  ∀ (i : Nat) t I oI C oC K oK D h tk (E' : Value → Shared → Prop) ys nx, i < n → oK.data = .cell (some (.int (a + (i : Int)) t)) → Fr h₀ L h m → News h₀ L h ((I, oI) :: (C, oC) :: (K, oK) :: (D, LCg.lst ys) :: nx) → Off4 I C K D nx → ((@Ne Nat I C) ∧ (@Ne Nat I K) ∧ (@Ne Nat I D) ∧ (@Ne Nat C K) ∧ (@Ne Nat C D) ∧ (@Ne Nat K D)) → J i ys nx →
      wpAny (model PG w) A (eval elt (compEnvC scope ((x, K) :: cl) C env)) (TEndC h₀ L m { s with heap := h, toks := tk } I oI C oC K oK D ys (fun y nx' => J (i + 1) (ys ++ [y]) nx')) E' { s with heap := h, toks := tk }
theorem news_one {h h' : Heap} {p : Addr × Obj} {l : List (Addr × Obj)} (N : News h₀ L h l) (hp : p ∈ l) (k : h.get? p.1 = some p.2 → h'.get? p.1 = some p.2) : h'.get? p.1 = some p.2 ∧ p.1 ≠ L ∧ h₀.get? p.1 = none := ⟨k (N p hp).1, (N p hp).2⟩
theorem comp_loop_C {a : Int} {n : Nat} {I C K D : Addr} {oC oK : Obj} {v₀ : Option Value} {m' : Str → Option Value} {h₁ : Heap} {tk₁ : Nat} (J : Nat → List Value → List (Addr × Obj) → Prop) (hh : A.handled = none) (hkind : (relabel scope env).kind = .function) (hx : (relabel scope env).names.lookup x = some .cell)
    (hz : n ≤ sizeLine) (F : Fr h₀ L h₁ m) (N : News h₀ L h₁ ((I, rangeIt a n) :: (C, oC) :: (K, oK) :: (D, LCg.lst []) :: news)) (off : Off4 I C K D news) (ne : (@Ne Nat I C) ∧ (@Ne Nat I K) ∧ (@Ne Nat I D) ∧ (@Ne Nat C K) ∧ (@Ne Nat C D) ∧ (@Ne Nat K D)) (hoC : LCg.NsObj oC m') (hoK : oK.data = .cell v₀) (hj : J 0 [] news)
    (turn : TurnC w A h₀ L m env elt x scope cl s a n J) (done : CompDone h₀ L m s n J Q) :
    codeAny (model PG w) A (.compLoop (.ListComp elt [⟨.Name x px, iter, [], 0⟩] scope pos) 0 (.ref I) (.ref D) (compEnvC scope ((x, K) :: cl) C env)) (compPost (model PG w) A E none Q (.ref D) C) { s with heap := h₁, toks := tk₁ } := by
  obtain ⟨nIC, nIK, nID, nCK, nCD, nKD⟩ := ne
  have W := LCg.range_walks (prog := PG) (w := w) (A := A) (I := I) hh a n
  refine codeAny_compLoop_tests
    (fun k s' => ∃ h' tk i ys nx oK v₁, s' = { s with heap := h', toks := tk } ∧ i ≤ n ∧ k = n + 1 - i ∧ ys.length = i ∧ Fr h₀ L h' m ∧ News h₀ L h' ((I, rangeIt (a + (i : Nat) * 1) ((n : Int) - (i : Nat))) :: (C, oC) :: (K, oK) :: (D, LCg.lst ys) :: nx) ∧ oK.data = .cell v₁ ∧ Off4 I C K D nx ∧ J i ys nx) ?_ (n + 1)
    ⟨h₁, tk₁, 0, [], news, oK, v₀, rfl, Nat.zero_le _, rfl, rfl, F, by simpa using N, hoK, off, hj⟩
  rintro k s' ⟨h', tk, i, ys, nx, oK', v₁, rfl, hi, rfl, hyl, F', N', hoK', off', hj'⟩
  have hI₀ := (N' _ (.head _)).2.2
  have hIL := (N' _ (.head _)).2.1
  have hst' : IsRangeIter h' I (a + (i : Nat) * 1) ((n : Int) - (i : Nat)) 1 := (N' _ (.head _)).1
  by_cases hlt : i < n
  · refine W.item i _ _ _ hlt hst' fun v h₂ tk₂ hPv hst₂ hk₂ => ?_
    obtain ⟨t, rfl⟩ := hPv
    have keep2 : ∀ b o, b ≠ I → h'.get? b = some o → h₂.get? b = some o := fun b o hb e => hk₂ b o (by simpa using hb) e
    have F₂ : Fr h₀ L h₂ m := LCg.fr_but F' hk₂ (Ne.symm hIL) hI₀
    have zK := N' (K, oK') (.tail _ (.tail _ (.head _)))
    refine wpAny_assign_Name (wpAny_storeName_cell (c := K) (v₀ := v₁) hkind hx (by simp [compEnvC]) ⟨oK', keep2 _ _ (Ne.symm nIK) zK.1, hoK'⟩ fun h₃ hc₃ hs₃ => ?_)
    refine wpAny_tests_nil ?_
    simp only [if_true]
    obtain ⟨oK₃, heK₃, hdK₃⟩ := hc₃
    have keep3 : ∀ b o, b ≠ I → b ≠ K → h'.get? b = some o → h₃.get? b = some o := fun b o hb hbK e => hs₃.extBut b o hbK (keep2 b o hb e)
    have F₃ : Fr h₀ L h₃ m := F₂.change hs₃ zK.2.1 zK.2.2
    have hstI : h₃.get? I = some (rangeIt (a + ((i + 1 : Nat) : Int) * 1) ((n : Int) - ((i + 1 : Nat) : Int))) := hs₃.extBut _ _ nIK hst₂
    have N₃ : News h₀ L h₃ ((I, rangeIt (a + ((i + 1 : Nat) : Int) * 1) ((n : Int) - ((i + 1 : Nat) : Int))) :: (C, oC) :: (K, oK₃) :: (D, LCg.lst ys) :: nx) := by
      intro p hp
      rcases List.mem_cons.mp hp with rfl | hp
      · exact ⟨hstI, hIL, hI₀⟩
      rcases List.mem_cons.mp hp with rfl | hp
      · exact news_one (p := (C, oC)) N' (.tail _ (.head _)) (keep3 _ _ (Ne.symm nIC) nCK)
      rcases List.mem_cons.mp hp with rfl | hp
      · exact ⟨heK₃, zK.2⟩
      rcases List.mem_cons.mp hp with rfl | hp
      · exact news_one (p := (D, LCg.lst ys)) N' (.tail _ (.tail _ (.tail _ (.head _)))) (keep3 _ _ (Ne.symm nID) (Ne.symm nKD))
      · exact news_one N' (.tail _ (.tail _ (.tail _ (.tail _ hp)))) (keep3 _ _ (off' p hp).1 (off' p hp).2.2.1)
    refine wpAny_mono (turn i t I _ C oC K oK₃ D h₃ _ _ ys nx hlt hdK₃ F₃ N₃ off' ⟨nIC, nIK, nID, nCK, nCD, nKD⟩ hj') (fun y s₄ h₄ => ?_) fun _ _ e => e
    obtain ⟨h₄, tk₄, nx', rfl, F₄, N₄, off₄, hj₄⟩ := h₄
    have zD := N₄ (D, LCg.lst ys) (.tail _ (.tail _ (.tail _ (.head _))))
    refine append_at (hsz := by show ys.toArray.size ≤ sizeLine; rw [List.size_toArray, hyl]; exact Nat.le_trans hi hz) zD.1 fun h₅ hs₅ hD₅ => ?_
    refine ⟨n + 1 - (i + 1), by omega, h₅, tk₄, i + 1, ys ++ [y], nx', oK₃, _, rfl, hlt, rfl, by rw [List.length_append, List.length_singleton, hyl], F₄.change hs₅ zD.2.1 zD.2.2, ?_, hdK₃, off₄, hj₄⟩
    intro p hp
    rcases List.mem_cons.mp hp with rfl | hp
    · exact news_one (p := (I, _)) N₄ (.head _) (hs₅.extBut _ _ nID)
    rcases List.mem_cons.mp hp with rfl | hp
    · exact news_one (p := (C, oC)) N₄ (.tail _ (.head _)) (hs₅.extBut _ _ nCD)
    rcases List.mem_cons.mp hp with rfl | hp
    · exact news_one (p := (K, oK₃)) N₄ (.tail _ (.tail _ (.head _))) (hs₅.extBut _ _ nKD)
    rcases List.mem_cons.mp hp with rfl | hp
    · exact ⟨hD₅.trans (congrArg some (LCg.lst_snoc ys y)), zD.2⟩
    · exact news_one N₄ (.tail _ (.tail _ (.tail _ (.tail _ hp)))) (hs₅.extBut _ _ (off₄ p hp).2.2.2)
  · obtain rfl : i = n := Nat.le_antisymm hi (Nat.not_lt.mp hlt)
    refine W.done _ _ _ hst' fun h₂ tk₂ hk₂ => ?_
    have keep2 : ∀ b o, b ≠ I → h'.get? b = some o → h₂.get? b = some o := fun b o hb e => hk₂ b o (by simpa using hb) e
    have F₂ : Fr h₀ L h₂ m := LCg.fr_but F' hk₂ (Ne.symm hIL) hI₀
    have zC := N' (C, oC) (.tail _ (.head _))
    have zD := N' (D, LCg.lst ys) (.tail _ (.tail _ (.tail _ (.head _))))
    refine post_of (J := J) done D C h₂ tk₂ m' ys nx F₂ (fun p hp => ?_) ?_ (hoC.ns (keep2 _ _ (Ne.symm nIC) zC.1)) zC.2.2 zD.2.2 zC.2.1 zD.2.1 nCD (fun p hp => (off' p hp).2.1) hj'
    · rcases List.mem_cons.mp hp with rfl | hp
      · exact news_one (p := (D, LCg.lst ys)) N' (.tail _ (.tail _ (.tail _ (.head _)))) (keep2 _ _ (Ne.symm nID))
      · exact news_one N' (.tail _ (.tail _ (.tail _ (.tail _ hp)))) (keep2 _ _ (off' p hp).1)
    · have : ∀ l : List (Addr × Obj), (∀ p ∈ l, @Ne Nat p.1 D) → LCg.Off1 D l := by
        intro l
        induction l with
        | nil => intro _; trivial
        | cons q r ih => intro h; exact ⟨h q (.head _), ih fun p hp => h p (.tail _ hp)⟩
      exact this nx fun p hp => (off' p hp).2.2.2
/-- [elt for x in range(a, b)], where x is a cell -/
theorem comp_range_C {r : Addr} {a b : Int} {t u v : Tok} {n : Nat} (J : Nat → List Value → List (Addr × Obj) → Prop) (hh : A.handled = none) (hcs : ∀ n acc, cellsFrom n scope.names acc = (x, n) :: acc) (hpc : ∀ h, pushCells h scope.names = h.push (cellObj none)) (hkind : (relabel scope env).kind = .function) (hx : (relabel scope env).names.lookup x = some .cell)
    (hr : IsRange s.heap r a b 1 t u v) (hsm : Builtin.Range.small a b 1 = true) (hn : Builtin.Range.rangeSize a b 1 = ((n : Nat) : Int)) (hz : n ≤ sizeLine) (F : Fr h₀ L s.heap m) (N : News h₀ L s.heap news) (hj : J 0 [] news)
    (turn : TurnC w A h₀ L m env elt x scope cl s a n J) (done : CompDone h₀ L m s n J Q) :
    wpAny (model PG w) A (pyIter (.ref r)) (fun it s₂ => CompAt w A E env scope cl (.ListComp elt [⟨.Name x px, iter, [], 0⟩] scope pos) Q it s₂) E s := by
  refine wpAny_pyIter_range hr hsm ?_
  refine wpAny_newObj_type (newEnv_C hcs hpc ?_)
  dsimp only
  rw [hn]
  have fresh₀ : ∀ q : Addr, s.heap.objs.size ≤ q → h₀.get? q = none := fun q hq => by
    cases e : h₀.get? q with
    | none => rfl
    | some o => exact absurd (Heap.lt_size (F.keep q o e)) (Nat.not_lt.mpr hq)
  have hLlt := F.ns.lt
  generalize h1 : s.heap.push { cls := .type "range_iterator", dict := none, data := .fields #[rawInt a, rawInt ((n : Nat) : Int), rawInt 1] } = H1
  generalize h2 : H1.push { cls := .type "list", dict := none, data := .seq ([] : List Value).toArray } = H2
  generalize h3 : H2.push dictObj = H3
  generalize h4 : H3.push (cellObj none) = H4
  have z1 : H1.objs.size = s.heap.objs.size + 1 := by rw [← h1, Heap.size_push]
  have z2 : H2.objs.size = s.heap.objs.size + 2 := by rw [← h2, Heap.size_push, z1]
  have z3 : H3.objs.size = s.heap.objs.size + 3 := by rw [← h3, Heap.size_push, z2]
  have k1 : ∀ q o, s.heap.get? q = some o → H1.get? q = some o := fun q o e => h1 ▸ Heap.get?_push_of_some _ e
  have k2 : ∀ q o, H1.get? q = some o → H2.get? q = some o := fun q o e => h2 ▸ Heap.get?_push_of_some _ e
  have k3 : ∀ q o, H2.get? q = some o → H3.get? q = some o := fun q o e => h3 ▸ Heap.get?_push_of_some _ e
  have k4 : ∀ q o, H3.get? q = some o → H4.get? q = some o := fun q o e => h4 ▸ Heap.get?_push_of_some _ e
  have k : ∀ q o, s.heap.get? q = some o → H4.get? q = some o := fun q o e => k4 _ _ (k3 _ _ (k2 _ _ (k1 _ _ e)))
  have gI : H4.get? s.heap.objs.size = some (rangeIt a n) := k4 _ _ (k3 _ _ (k2 _ _ (h1 ▸ Heap.get?_push_size _ rfl)))
  have gD : H4.get? H1.objs.size = some (LCg.lst []) := k4 _ _ (k3 _ _ (h2 ▸ Heap.get?_push_size _ rfl))
  have gC : H4.get? H2.objs.size = some dictObj := k4 _ _ (h3 ▸ Heap.get?_push_size _ rfl)
  have gK : H4.get? (H2.objs.size + 1) = some (cellObj none) := by
    have : H2.objs.size + 1 = H3.objs.size := by rw [z3, z2]
    rw [this, ← h4]; exact Heap.get?_push_size _ rfl
  have N4 : News h₀ L H4 ((s.heap.objs.size, rangeIt a n) :: (H2.objs.size, dictObj) :: (H2.objs.size + 1, cellObj none) :: (H1.objs.size, LCg.lst []) :: news) := by
    intro p hp
    rcases List.mem_cons.mp hp with rfl | hp
    · exact ⟨gI, Nat.ne_of_gt hLlt, fresh₀ _ (Nat.le_refl _)⟩
    rcases List.mem_cons.mp hp with rfl | hp
    · exact ⟨gC, fun q => by have q' : @Eq Nat (H2.objs.size) L := q; have : @LT.lt Nat _ L s.heap.objs.size := hLlt; omega, fresh₀ _ (by show @LE.le Nat _ _ _; omega)⟩
    rcases List.mem_cons.mp hp with rfl | hp
    · exact ⟨gK, fun q => by have q' : @Eq Nat (H2.objs.size + 1) L := q; have : @LT.lt Nat _ L s.heap.objs.size := hLlt; omega, fresh₀ _ (by show @LE.le Nat _ _ _; omega)⟩
    rcases List.mem_cons.mp hp with rfl | hp
    · exact ⟨gD, fun q => by have q' : @Eq Nat (H1.objs.size) L := q; have : @LT.lt Nat _ L s.heap.objs.size := hLlt; omega, fresh₀ _ (by show @LE.le Nat _ _ _; omega)⟩
    · exact ⟨k _ _ (N p hp).1, (N p hp).2⟩
  have off : Off4 s.heap.objs.size H2.objs.size (H2.objs.size + 1) H1.objs.size news := fun p hp => by
    have : p.1 < s.heap.objs.size := Heap.lt_size (N p hp).1
    have : @LT.lt Nat _ p.1 s.heap.objs.size := this
    exact ⟨by omega, by omega, by omega, by omega⟩
  have lp : ∀ tk₁, codeAny (model PG w) A (.compLoop (.ListComp elt [⟨.Name x px, iter, [], 0⟩] scope pos) 0 (.ref s.heap.objs.size) (.ref H1.objs.size) (compEnvC scope ((x, H2.objs.size + 1) :: cl) H2.objs.size env)) (compPost (model PG w) A E none Q (.ref H1.objs.size) H2.objs.size) { s with heap := H4, toks := tk₁ } := fun tk₁ =>
    comp_loop_C (oC := dictObj) (oK := cellObj none) (v₀ := none) (m' := fun _ => none) J hh hkind hx hz (F.keeps k) N4 off ⟨by omega, by omega, by omega, by omega, by omega, by omega⟩ ⟨#[], 0, rfl, by intro e he; simp at he, fun _ => rfl⟩ rfl hj turn done
  exact codeAny_compStart_list (lp s.toks) ((LCg.range_walks (prog := PG) (w := w) (A := A) (I := s.heap.objs.size) hh a n).self 0 _ _ _ (by show H4.get? _ = _; rw [gI]; simp) (lp s.toks))
end
end Mine
end
-- text Opq
section
open PySem PySem.W PySem.Calls PyProof.Rows
set_option Elab.async false
set_option maxRecDepth 100000
set_option linter.unusedVariables false
namespace Mine
section
variable {w : World} {A B : Around} {α β : Type} {E E' : Value → Shared → Prop} {s : Shared}
/-- the walk sees a name in the post-condition's place: the term stays small -/
theorem opq {t : Sem α} {Q : α → Shared → Prop} (h : ∀ P : α → Shared → Prop, (∀ v s', Q v s' → P v s') → wpAny (model PG w) A t P E s) : wpAny (model PG w) A t Q E s := h Q fun _ _ h => h
theorem opq2 {t : Sem α} {u : α → Sem β} {Q : β → Shared → Prop} (h : ∀ P : β → Shared → Prop, (∀ v s', Q v s' → P v s') → wpAny (model PG w) A t (fun x s₃ => wpAny (model PG w) B (u x) P E' s₃) E s) :
    wpAny (model PG w) A t (fun x s₃ => wpAny (model PG w) B (u x) Q E' s₃) E s := h Q fun _ _ h => h
theorem opqT {t : Sem Bool} {e : Sem α} {Q : α → Shared → Prop} {R : Shared → Prop} (h : ∀ (P : α → Shared → Prop) (P0 : Shared → Prop), (∀ v s', Q v s' → P v s') → (∀ s', R s' → P0 s') → wpAny (model PG w) A t (fun ok s' => if ok = true then wpAny (model PG w) B e P E' s' else P0 s') E s) :
    wpAny (model PG w) A t (fun ok s' => if ok = true then wpAny (model PG w) B e Q E' s' else R s') E s := h Q R (fun _ _ h => h) fun _ h => h
end
end Mine
end
-- text D13
section
open PySem PySem.W PySem.Calls PyProof.Rows
set_option Elab.async false
set_option maxRecDepth 100000
set_option maxHeartbeats 8000000
set_option linter.unusedVariables false
namespace Mine
theorem D13_fill (w : World) : (hd.heap_39 w.params = hd.heap_39 w.params ∧ PySem.Challenge.rw_nu0265_01 = PySem.Challenge.rw_nu0265_01) := by
  k_fill
  exact ⟨rfl, rfl⟩
noncomputable def keptF (ns : List Int) : List Int := isort (dd (ns.filter fun a => a != 1))
noncomputable def joinedF (c : Circ) (ns : List Int) (gg : Int) : Bool :=
  if (ns.any fun x => x == -1) = true then gg == -1
  else if List.filter (fun a => ns.any fun x => x == 0 - a) ns = [] then
    if (keptF ns).length < 2 then gg == ((keptF ns) ++ [1]).getD 0 0
    else if 0 < gg then if (c.kinds.getD (ab gg).toNat default == Str.ofString "and") = true then decide (c.parts.getD (ab gg).toNat [] = keptF ns) else false
    else false
  else gg == -1
local macro_rules | `(tactic| walk_at "eval ListComp") => `(tactic| refine Stop.to 1 ?_)
local macro_rules | `(tactic| walk_at "pyIter ref") => `(tactic| refine Stop.mk ?_)
local macro_rules | `(tactic| walk_at "compareOp NotEq ref ref") => `(tactic| refine Stop.to 2 ?_)
local macro_rules | `(tactic| walk_at "call type:set") => `(tactic| refine Stop.to 3 ?_)
local macro_rules | `(tactic| walk_at "call builtin:sorted") => `(tactic| refine Stop.to 4 ?_)
local macro_rules | `(tactic| walk_at "call builtin:len") => `(tactic| refine Stop.to 5 ?_)
local macro_rules | `(tactic| walk_at "subscriptTail") => `(tactic| refine Stop.to 6 ?_)
local macro_rules | `(tactic| walk_at "call type:tuple") => `(tactic| refine Stop.to 7 ?_)
local macro_rules | `(tactic| walk_at "compareOp Eq ref ref") => `(tactic| refine Stop.to 8 ?_)
local macro_rules | `(tactic| walk_at "call ref") => `(tactic| refine Stop.to 9 ?_)
theorem take_filter {ns : List Int} {i : Nat} {x : Int} {p : Int → Bool} (h : ns[i]? = some x) : (ns.take (i + 1)).filter p = if p x = true then (ns.take i).filter p ++ [x] else (ns.take i).filter p := by
  rw [List.take_add_one, h, List.filter_append]
  simp only [Option.toList_some, List.filter_cons, List.filter_nil]
  split <;> simp
section
variable (w : World) (mean : ExcName → Option Value) (mg mb : Str → Option Value) (a : NA) (tl : List (Addr × Obj)) (c : Circ)
theorem joined_ctr (hc : c.kinds.length ≤ 900) (hc2 : c.parts.length ≤ 900) (ga : Addr) (gg : Int) (tg : Tok) (vs : List Value) (ns : List Int) (hi : IntsAre vs ns) (hn : ns.length ≤ 3) (h1 : (ab gg).toNat < c.kinds.length) (h2 : (ab gg).toNat < c.parts.length) :
  Ctr w mean mg mb 157 4 200 [.ref a.net, .ref ga, .int gg tg] (fun g _ => NetRead w g a tl c ∧ g.IsList ga (List.toArray vs))
    (fun g v _ h' => v = .bool (joinedF c ns gg)) := by
  rintro dp un gd fr base g s Q E C hd hu ⟨hR, hl⟩ hQ
  obtain ⟨hG, _, _⟩ := id hR
  obtain ⟨hinst, ⟨x1, x2, x3, x4, x5, x6, x7, hdict⟩, n1, n2, n3, lo⟩ := id hG
  have X := C.X
  have T := C.T
  have B := C.B
  have hlen := hi.length
  have hfl := List.length_filter_le (fun a => a != 1) ns
  have hil := (isort_perm (dd (ns.filter fun a => a != 1))).length_eq
  have hg1 : -1000 ≤ gg ∧ gg ≤ 1000 := by unfold ab at h1; split at h1 <;> omega
  refine wpAny_call ?_
  k_dflt (refine' enterC C ?k6 ?k7 ?k8 ?k9 ?kB ?kD ?_ ?c2 ?c3 ?c4; (case k6 => k_is); (case k7 => k_is); (case k8 => omega); (case k9 => exact BindsTo.of_eq rfl); (case kB => exact rfl); (case kD => decide +kernel); (case c2 => exact rfl); (case c3 => exact rfl); (case c4 => exact rfl))
  intro h₁ tkc cells F N Y l0 K₁
  (try k_lt l0); k_cells Y; (try simp only [List.cons_append, List.nil_append] at N)
  (try dsimp only)
  (try k_fold)
  (k_steps; (repeat' ((first | (refine Stop.out (n := 1) ?_; (first | ((k_dflt (refine' comp_open ?y9c ?y9k ?y9n ?_ ?y9s; (case y9c => with_unfolding_all rfl); (case y9k => exact rfl); (case y9n => decide); (case y9s => (intro _; rfl))))))) | (refine Stop.out (n := 2) ?_; (first | ((k_dflt (refine' ne_ints_n ?y9N ?y9a ?y9b ?y9i ?y9j ?y9u ?_; (case y9N => k_asm); (case y9a => k_mem); (case y9b => k_mem); (case y9i => first | assumption | exact IntsAre.nil); (case y9j => first | exact IntsAre.nil | assumption); (case y9u => (dsimp only [Around.deeper, ar]; (refine Nat.lt_of_le_of_lt ?_ (by assumption)); simp))))))) | (refine Stop.out (n := 3) ?_; (first | ((k_dflt (refine' set_of_n ?y9h ?y9F ?y9N ?y9m ?y9i ?y9l ?_; (case y9h => exact rfl); (case y9F => k_asm); (case y9N => k_asm); (case y9m => k_mem); (case y9i => assumption); (case y9l => (refine Nat.le_trans (List.length_filter_le _ _) ?_; omega))); intro D9q h9q o9q tk9q F9q N9q l9q hs9q hz9q; (try k_lt l9q))))) | (refine Stop.out (n := 4) ?_; (first | ((k_dflt (refine' sorted_set ?y9h ?y9F ?y9N ?y9m ?y9d ?_; (case y9h => exact rfl); (case y9F => k_asm); (case y9N => k_asm); (case y9m => k_mem); (case y9d => assumption)); intro D9q h9q vs9q c9q tk9q F9q N9q l9q hi9q hl9q; (try k_lt l9q))))) | (refine Stop.out (n := 5) ?_; (first | ((k_dflt (refine' len_v ?y9N ?y9m ?y9z ?_; (case y9N => k_asm); (case y9m => k_mem); (case y9z => omega)); intro t9q tk9q)))) | (refine Stop.out (n := 6) ?_; (first | (((with_reducible show wpAny _ _ (subscriptTail _ _ (Value.ref _) (Value.int _ _)) _ _ _); (k_dflt (refine' item_ni ?y9N ?y9m ?y9i ?y9a ?y9b ?y9c ?_; (case y9N => k_asm); (case y9m => k_mem); (case y9i => assumption); (case y9a => omega); (case y9b => omega); (case y9c => (simp; try omega)))); intro t9q)))) | (refine Stop.out (n := 7) ?_; (first | ((k_dflt (refine' tuple_list ?y9F ?y9N ?y9m ?y9z ?_; (case y9F => k_asm); (case y9N => k_asm); (case y9m => k_mem); (case y9z => omega)); intro D9q h9q F9q N9q l9q; (try k_lt l9q))))) | (refine Stop.out (n := 8) ?_; (first | ((k_dflt (refine' eq_tups ?y9a ?y9b ?y9u ?_; (case y9a => exact tupAt_r (NetRead.keeps (by assumption) (Fr.keep (by k_asm))) (by assumption) (by assumption)); (case y9b => exact tupAt_n (by k_asm) (by k_mem) (tupObj_of (by assumption))); (case y9u => (dsimp only [Around.deeper, ar]; (refine Nat.lt_of_le_of_lt ?_ (by assumption)); simp))))))) | (refine Stop.out (n := 9) ?_; (first | (first | ((with_reducible show wpAny _ _ (call (Value.ref 42) _) _ _ _); k_dflt (refine' kind_use ?y9B ?y9F ?y9X ?y9T ?y9N ?y9f ?y9k ?y9d ?y9u ?y9r ?y9c ?y91 ?y92 ?y9l ?_; (case y9B => k_asm); (case y9F => k_asm); (case y9X => k_asm); (case y9T => k_asm); (case y9N => k_asm); (case y9f => exact rfl); (case y9k => exact rfl); (case y9d => (dsimp only [Around.deeper, ar]; (refine Nat.lt_of_le_of_lt ?_ (by assumption)); simp)); (case y9u => (dsimp only [Around.deeper, ar]; (refine Nat.lt_of_le_of_lt ?_ (by assumption)); simp)); (case y9r => exact NetRead.keeps (by assumption) (Fr.keep (by k_asm))); (case y9c => omega); (case y91 => omega); (case y92 => omega); (case y9l => omega)); intro x9q t9q h9q tk9q F9q N9q hk9q; (try dsimp only at N9q)) | ((with_reducible show wpAny _ _ (call (Value.ref 49) _) _ _ _); k_dflt (refine' parts_use ?y9B ?y9F ?y9X ?y9T ?y9N ?y9f ?y9k ?y9d ?y9u ?y9r ?y9c ?y91 ?y92 ?y9l ?_; (case y9B => k_asm); (case y9F => k_asm); (case y9X => k_asm); (case y9T => k_asm); (case y9N => k_asm); (case y9f => exact rfl); (case y9k => exact rfl); (case y9d => (dsimp only [Around.deeper, ar]; (refine Nat.lt_of_le_of_lt ?_ (by assumption)); simp)); (case y9u => (dsimp only [Around.deeper, ar]; (refine Nat.lt_of_le_of_lt ?_ (by assumption)); simp)); (case y9r => exact NetRead.keeps (by assumption) (Fr.keep (by k_asm))); (case y9c => omega); (case y91 => omega); (case y92 => omega); (case y9l => omega)); intro t9q o9q p9q h9q tk9q F9q N9q hm9q ho9q hp9q; (try dsimp only at N9q)))))); k_steps)))
  · (try dsimp only)
    refine hQ _ _ _ F.keep ?_
    unfold joinedF; rw [if_pos (by assumption)]
  refine Stop.out ?_
  rename_i oW dW hA
  have hA' : ¬ (ns.any fun x => x == -1) = true := by rw [hA]; exact Bool.noConfusion
  refine comp_seq_T (fun i ys nx => nx = [(s.heap.objs.size + 1, oW)] ∧ IntsAre ys ((ns.take i).filter fun a => ns.any fun x => x == 0 - a)) rfl (by decide) rfl rfl (.inl (.inl hl)) (by rw [sizeLine_eq]; omega) F N ⟨rfl, .nil⟩ (fun _ _ _ _ => .inl (.inl hl)) ?_ ?_
  · rintro i v I oI C' oC D m₂ h tk E' ys nx hin hv hoC hx F9 N9 off ne ⟨rfl, hys⟩
    refine opqT fun PC PC0 hPC hPC0 => ?_
    obtain ⟨x, t, rfl, hxs⟩ := hi.at i v hv
    clear N F
    (try dsimp only); (try k_fold)
    (k_steps; (repeat' ((first | (refine Stop.out (n := 1) ?_; (first | ((k_dflt (refine' comp_open ?y9c ?y9k ?y9n ?_ ?y9s; (case y9c => with_unfolding_all rfl); (case y9k => exact rfl); (case y9n => decide); (case y9s => (intro _; rfl))))))) | (refine Stop.out (n := 2) ?_; (first | ((k_dflt (refine' ne_ints_n ?y9N ?y9a ?y9b ?y9i ?y9j ?y9u ?_; (case y9N => k_asm); (case y9a => k_mem); (case y9b => k_mem); (case y9i => first | assumption | exact IntsAre.nil); (case y9j => first | exact IntsAre.nil | assumption); (case y9u => (dsimp only [Around.deeper, ar]; (refine Nat.lt_of_le_of_lt ?_ (by assumption)); simp))))))) | (refine Stop.out (n := 3) ?_; (first | ((k_dflt (refine' set_of_n ?y9h ?y9F ?y9N ?y9m ?y9i ?y9l ?_; (case y9h => exact rfl); (case y9F => k_asm); (case y9N => k_asm); (case y9m => k_mem); (case y9i => assumption); (case y9l => (refine Nat.le_trans (List.length_filter_le _ _) ?_; omega))); intro D9q h9q o9q tk9q F9q N9q l9q hs9q hz9q; (try k_lt l9q))))) | (refine Stop.out (n := 4) ?_; (first | ((k_dflt (refine' sorted_set ?y9h ?y9F ?y9N ?y9m ?y9d ?_; (case y9h => exact rfl); (case y9F => k_asm); (case y9N => k_asm); (case y9m => k_mem); (case y9d => assumption)); intro D9q h9q vs9q c9q tk9q F9q N9q l9q hi9q hl9q; (try k_lt l9q))))) | (refine Stop.out (n := 5) ?_; (first | ((k_dflt (refine' len_v ?y9N ?y9m ?y9z ?_; (case y9N => k_asm); (case y9m => k_mem); (case y9z => omega)); intro t9q tk9q)))) | (refine Stop.out (n := 6) ?_; (first | (((with_reducible show wpAny _ _ (subscriptTail _ _ (Value.ref _) (Value.int _ _)) _ _ _); (k_dflt (refine' item_ni ?y9N ?y9m ?y9i ?y9a ?y9b ?y9c ?_; (case y9N => k_asm); (case y9m => k_mem); (case y9i => assumption); (case y9a => omega); (case y9b => omega); (case y9c => (simp; try omega)))); intro t9q)))) | (refine Stop.out (n := 7) ?_; (first | ((k_dflt (refine' tuple_list ?y9F ?y9N ?y9m ?y9z ?_; (case y9F => k_asm); (case y9N => k_asm); (case y9m => k_mem); (case y9z => omega)); intro D9q h9q F9q N9q l9q; (try k_lt l9q))))) | (refine Stop.out (n := 8) ?_; (first | ((k_dflt (refine' eq_tups ?y9a ?y9b ?y9u ?_; (case y9a => exact tupAt_r (NetRead.keeps (by assumption) (Fr.keep (by k_asm))) (by assumption) (by assumption)); (case y9b => exact tupAt_n (by k_asm) (by k_mem) (tupObj_of (by assumption))); (case y9u => (dsimp only [Around.deeper, ar]; (refine Nat.lt_of_le_of_lt ?_ (by assumption)); simp))))))) | (refine Stop.out (n := 9) ?_; (first | (first | ((with_reducible show wpAny _ _ (call (Value.ref 42) _) _ _ _); k_dflt (refine' kind_use ?y9B ?y9F ?y9X ?y9T ?y9N ?y9f ?y9k ?y9d ?y9u ?y9r ?y9c ?y91 ?y92 ?y9l ?_; (case y9B => k_asm); (case y9F => k_asm); (case y9X => k_asm); (case y9T => k_asm); (case y9N => k_asm); (case y9f => exact rfl); (case y9k => exact rfl); (case y9d => (dsimp only [Around.deeper, ar]; (refine Nat.lt_of_le_of_lt ?_ (by assumption)); simp)); (case y9u => (dsimp only [Around.deeper, ar]; (refine Nat.lt_of_le_of_lt ?_ (by assumption)); simp)); (case y9r => exact NetRead.keeps (by assumption) (Fr.keep (by k_asm))); (case y9c => omega); (case y91 => omega); (case y92 => omega); (case y9l => omega)); intro x9q t9q h9q tk9q F9q N9q hk9q; (try dsimp only at N9q)) | ((with_reducible show wpAny _ _ (call (Value.ref 49) _) _ _ _); k_dflt (refine' parts_use ?y9B ?y9F ?y9X ?y9T ?y9N ?y9f ?y9k ?y9d ?y9u ?y9r ?y9c ?y91 ?y92 ?y9l ?_; (case y9B => k_asm); (case y9F => k_asm); (case y9X => k_asm); (case y9T => k_asm); (case y9N => k_asm); (case y9f => exact rfl); (case y9k => exact rfl); (case y9d => (dsimp only [Around.deeper, ar]; (refine Nat.lt_of_le_of_lt ?_ (by assumption)); simp)); (case y9u => (dsimp only [Around.deeper, ar]; (refine Nat.lt_of_le_of_lt ?_ (by assumption)); simp)); (case y9r => exact NetRead.keeps (by assumption) (Fr.keep (by k_asm))); (case y9c => omega); (case y91 => omega); (case y92 => omega); (case y9l => omega)); intro t9q o9q p9q h9q tk9q F9q N9q hm9q ho9q hp9q; (try dsimp only at N9q)))))); k_steps)))
    · rename_i hx1
      (try dsimp only)
      refine hPC _ _ (TEnd.intro (nx' := [(s.heap.objs.size + 1, oW)]) F9 N9 off ⟨rfl, ?_⟩)
      rw [take_filter hxs, if_pos hx1]
      exact hys.append (.cons _ _ .nil)
    · rename_i hx1
      (try dsimp only)
      refine hPC0 _ (TEnd.intro (nx' := [(s.heap.objs.size + 1, oW)]) F9 N9 off ⟨rfl, ?_⟩)
      rw [take_filter hxs, if_neg (by rw [hx1]; exact Bool.noConfusion)]
      exact hys
  · rintro D h tk ys nx ⟨rfl, hys⟩ F9 N9 o1
    rw [hlen, List.take_length] at hys
    clear N F
    (k_steps; (repeat' ((first | (refine Stop.out (n := 1) ?_; (first | ((k_dflt (refine' comp_open ?y9c ?y9k ?y9n ?_ ?y9s; (case y9c => with_unfolding_all rfl); (case y9k => exact rfl); (case y9n => decide); (case y9s => (intro _; rfl))))))) | (refine Stop.out (n := 2) ?_; (first | ((k_dflt (refine' ne_ints_n ?y9N ?y9a ?y9b ?y9i ?y9j ?y9u ?_; (case y9N => k_asm); (case y9a => k_mem); (case y9b => k_mem); (case y9i => first | assumption | exact IntsAre.nil); (case y9j => first | exact IntsAre.nil | assumption); (case y9u => (dsimp only [Around.deeper, ar]; (refine Nat.lt_of_le_of_lt ?_ (by assumption)); simp))))))) | (refine Stop.out (n := 3) ?_; (first | ((k_dflt (refine' set_of_n ?y9h ?y9F ?y9N ?y9m ?y9i ?y9l ?_; (case y9h => exact rfl); (case y9F => k_asm); (case y9N => k_asm); (case y9m => k_mem); (case y9i => assumption); (case y9l => (refine Nat.le_trans (List.length_filter_le _ _) ?_; omega))); intro D9q h9q o9q tk9q F9q N9q l9q hs9q hz9q; (try k_lt l9q))))) | (refine Stop.out (n := 4) ?_; (first | ((k_dflt (refine' sorted_set ?y9h ?y9F ?y9N ?y9m ?y9d ?_; (case y9h => exact rfl); (case y9F => k_asm); (case y9N => k_asm); (case y9m => k_mem); (case y9d => assumption)); intro D9q h9q vs9q c9q tk9q F9q N9q l9q hi9q hl9q; (try k_lt l9q))))) | (refine Stop.out (n := 5) ?_; (first | ((k_dflt (refine' len_v ?y9N ?y9m ?y9z ?_; (case y9N => k_asm); (case y9m => k_mem); (case y9z => omega)); intro t9q tk9q)))) | (refine Stop.out (n := 6) ?_; (first | (((with_reducible show wpAny _ _ (subscriptTail _ _ (Value.ref _) (Value.int _ _)) _ _ _); (k_dflt (refine' item_ni ?y9N ?y9m ?y9i ?y9a ?y9b ?y9c ?_; (case y9N => k_asm); (case y9m => k_mem); (case y9i => assumption); (case y9a => omega); (case y9b => omega); (case y9c => (simp; try omega)))); intro t9q)))) | (refine Stop.out (n := 7) ?_; (first | ((k_dflt (refine' tuple_list ?y9F ?y9N ?y9m ?y9z ?_; (case y9F => k_asm); (case y9N => k_asm); (case y9m => k_mem); (case y9z => omega)); intro D9q h9q F9q N9q l9q; (try k_lt l9q))))) | (refine Stop.out (n := 8) ?_; (first | ((k_dflt (refine' eq_tups ?y9a ?y9b ?y9u ?_; (case y9a => exact tupAt_r (NetRead.keeps (by assumption) (Fr.keep (by k_asm))) (by assumption) (by assumption)); (case y9b => exact tupAt_n (by k_asm) (by k_mem) (tupObj_of (by assumption))); (case y9u => (dsimp only [Around.deeper, ar]; (refine Nat.lt_of_le_of_lt ?_ (by assumption)); simp))))))) | (refine Stop.out (n := 9) ?_; (first | (first | ((with_reducible show wpAny _ _ (call (Value.ref 42) _) _ _ _); k_dflt (refine' kind_use ?y9B ?y9F ?y9X ?y9T ?y9N ?y9f ?y9k ?y9d ?y9u ?y9r ?y9c ?y91 ?y92 ?y9l ?_; (case y9B => k_asm); (case y9F => k_asm); (case y9X => k_asm); (case y9T => k_asm); (case y9N => k_asm); (case y9f => exact rfl); (case y9k => exact rfl); (case y9d => (dsimp only [Around.deeper, ar]; (refine Nat.lt_of_le_of_lt ?_ (by assumption)); simp)); (case y9u => (dsimp only [Around.deeper, ar]; (refine Nat.lt_of_le_of_lt ?_ (by assumption)); simp)); (case y9r => exact NetRead.keeps (by assumption) (Fr.keep (by k_asm))); (case y9c => omega); (case y91 => omega); (case y92 => omega); (case y9l => omega)); intro x9q t9q h9q tk9q F9q N9q hk9q; (try dsimp only at N9q)) | ((with_reducible show wpAny _ _ (call (Value.ref 49) _) _ _ _); k_dflt (refine' parts_use ?y9B ?y9F ?y9X ?y9T ?y9N ?y9f ?y9k ?y9d ?y9u ?y9r ?y9c ?y91 ?y92 ?y9l ?_; (case y9B => k_asm); (case y9F => k_asm); (case y9X => k_asm); (case y9T => k_asm); (case y9N => k_asm); (case y9f => exact rfl); (case y9k => exact rfl); (case y9d => (dsimp only [Around.deeper, ar]; (refine Nat.lt_of_le_of_lt ?_ (by assumption)); simp)); (case y9u => (dsimp only [Around.deeper, ar]; (refine Nat.lt_of_le_of_lt ?_ (by assumption)); simp)); (case y9r => exact NetRead.keeps (by assumption) (Fr.keep (by k_asm))); (case y9c => omega); (case y91 => omega); (case y92 => omega); (case y9l => omega)); intro t9q o9q p9q h9q tk9q F9q N9q hm9q ho9q hp9q; (try dsimp only at N9q)))))); k_steps)))
    · refine Stop.out ?_
      rename_i l2 h2 F2 N2 l3 hx2
      (try clear F9 N9)
      have hB : List.filter (fun a => ns.any fun x => x == 0 - a) ns = [] := by simpa using hx2
      refine comp_seq_T (fun i ys' nx => nx = [(l2, PySem.W.listOf #[] 0), (D, LCg.lst ys), (s.heap.objs.size + 1, oW)] ∧ IntsAre ys' ((ns.take i).filter fun a => a != 1)) rfl (by decide) rfl rfl (.inl (.inl hl)) (by rw [sizeLine_eq]; omega) F2 N2 ⟨rfl, .nil⟩ (fun _ _ _ _ => .inl (.inl hl)) ?_ ?_
      · rintro i v I oI C' oC D' m₂ h tk E' ys' nx hin hv hoC hx F9 N9 off ne ⟨rfl, hys'⟩
        refine opqT fun PC PC0 hPC hPC0 => ?_
        obtain ⟨x, t, rfl, hxs⟩ := hi.at i v hv
        clear N2 F2
        (try dsimp only); (try k_fold)
        (k_steps; (repeat' ((first | (refine Stop.out (n := 1) ?_; (first | ((k_dflt (refine' comp_open ?y9c ?y9k ?y9n ?_ ?y9s; (case y9c => with_unfolding_all rfl); (case y9k => exact rfl); (case y9n => decide); (case y9s => (intro _; rfl))))))) | (refine Stop.out (n := 2) ?_; (first | ((k_dflt (refine' ne_ints_n ?y9N ?y9a ?y9b ?y9i ?y9j ?y9u ?_; (case y9N => k_asm); (case y9a => k_mem); (case y9b => k_mem); (case y9i => first | assumption | exact IntsAre.nil); (case y9j => first | exact IntsAre.nil | assumption); (case y9u => (dsimp only [Around.deeper, ar]; (refine Nat.lt_of_le_of_lt ?_ (by assumption)); simp))))))) | (refine Stop.out (n := 3) ?_; (first | ((k_dflt (refine' set_of_n ?y9h ?y9F ?y9N ?y9m ?y9i ?y9l ?_; (case y9h => exact rfl); (case y9F => k_asm); (case y9N => k_asm); (case y9m => k_mem); (case y9i => assumption); (case y9l => (refine Nat.le_trans (List.length_filter_le _ _) ?_; omega))); intro D9q h9q o9q tk9q F9q N9q l9q hs9q hz9q; (try k_lt l9q))))) | (refine Stop.out (n := 4) ?_; (first | ((k_dflt (refine' sorted_set ?y9h ?y9F ?y9N ?y9m ?y9d ?_; (case y9h => exact rfl); (case y9F => k_asm); (case y9N => k_asm); (case y9m => k_mem); (case y9d => assumption)); intro D9q h9q vs9q c9q tk9q F9q N9q l9q hi9q hl9q; (try k_lt l9q))))) | (refine Stop.out (n := 5) ?_; (first | ((k_dflt (refine' len_v ?y9N ?y9m ?y9z ?_; (case y9N => k_asm); (case y9m => k_mem); (case y9z => omega)); intro t9q tk9q)))) | (refine Stop.out (n := 6) ?_; (first | (((with_reducible show wpAny _ _ (subscriptTail _ _ (Value.ref _) (Value.int _ _)) _ _ _); (k_dflt (refine' item_ni ?y9N ?y9m ?y9i ?y9a ?y9b ?y9c ?_; (case y9N => k_asm); (case y9m => k_mem); (case y9i => assumption); (case y9a => omega); (case y9b => omega); (case y9c => (simp; try omega)))); intro t9q)))) | (refine Stop.out (n := 7) ?_; (first | ((k_dflt (refine' tuple_list ?y9F ?y9N ?y9m ?y9z ?_; (case y9F => k_asm); (case y9N => k_asm); (case y9m => k_mem); (case y9z => omega)); intro D9q h9q F9q N9q l9q; (try k_lt l9q))))) | (refine Stop.out (n := 8) ?_; (first | ((k_dflt (refine' eq_tups ?y9a ?y9b ?y9u ?_; (case y9a => exact tupAt_r (NetRead.keeps (by assumption) (Fr.keep (by k_asm))) (by assumption) (by assumption)); (case y9b => exact tupAt_n (by k_asm) (by k_mem) (tupObj_of (by assumption))); (case y9u => (dsimp only [Around.deeper, ar]; (refine Nat.lt_of_le_of_lt ?_ (by assumption)); simp))))))) | (refine Stop.out (n := 9) ?_; (first | (first | ((with_reducible show wpAny _ _ (call (Value.ref 42) _) _ _ _); k_dflt (refine' kind_use ?y9B ?y9F ?y9X ?y9T ?y9N ?y9f ?y9k ?y9d ?y9u ?y9r ?y9c ?y91 ?y92 ?y9l ?_; (case y9B => k_asm); (case y9F => k_asm); (case y9X => k_asm); (case y9T => k_asm); (case y9N => k_asm); (case y9f => exact rfl); (case y9k => exact rfl); (case y9d => (dsimp only [Around.deeper, ar]; (refine Nat.lt_of_le_of_lt ?_ (by assumption)); simp)); (case y9u => (dsimp only [Around.deeper, ar]; (refine Nat.lt_of_le_of_lt ?_ (by assumption)); simp)); (case y9r => exact NetRead.keeps (by assumption) (Fr.keep (by k_asm))); (case y9c => omega); (case y91 => omega); (case y92 => omega); (case y9l => omega)); intro x9q t9q h9q tk9q F9q N9q hk9q; (try dsimp only at N9q)) | ((with_reducible show wpAny _ _ (call (Value.ref 49) _) _ _ _); k_dflt (refine' parts_use ?y9B ?y9F ?y9X ?y9T ?y9N ?y9f ?y9k ?y9d ?y9u ?y9r ?y9c ?y91 ?y92 ?y9l ?_; (case y9B => k_asm); (case y9F => k_asm); (case y9X => k_asm); (case y9T => k_asm); (case y9N => k_asm); (case y9f => exact rfl); (case y9k => exact rfl); (case y9d => (dsimp only [Around.deeper, ar]; (refine Nat.lt_of_le_of_lt ?_ (by assumption)); simp)); (case y9u => (dsimp only [Around.deeper, ar]; (refine Nat.lt_of_le_of_lt ?_ (by assumption)); simp)); (case y9r => exact NetRead.keeps (by assumption) (Fr.keep (by k_asm))); (case y9c => omega); (case y91 => omega); (case y92 => omega); (case y9l => omega)); intro t9q o9q p9q h9q tk9q F9q N9q hm9q ho9q hp9q; (try dsimp only at N9q)))))); k_steps)))
        · rename_i hx1
          (try dsimp only)
          refine hPC _ _ (TEnd.intro F9 N9 off ⟨rfl, ?_⟩)
          rw [take_filter hxs, if_pos (by simpa using hx1)]
          exact hys'.append (.cons _ _ .nil)
        · rename_i hx1
          (try dsimp only)
          refine hPC0 _ (TEnd.intro F9 N9 off ⟨rfl, ?_⟩)
          rw [take_filter hxs, if_neg (by simpa using hx1)]
          exact hys'
      · rintro D' h tk ys' nx ⟨rfl, hys'⟩ F9 N9 o1'
        rw [hlen, List.take_length] at hys'
        clear N2 F2
        (k_steps; (repeat' ((first | (refine Stop.out (n := 1) ?_; (first | ((k_dflt (refine' comp_open ?y9c ?y9k ?y9n ?_ ?y9s; (case y9c => with_unfolding_all rfl); (case y9k => exact rfl); (case y9n => decide); (case y9s => (intro _; rfl))))))) | (refine Stop.out (n := 2) ?_; (first | ((k_dflt (refine' ne_ints_n ?y9N ?y9a ?y9b ?y9i ?y9j ?y9u ?_; (case y9N => k_asm); (case y9a => k_mem); (case y9b => k_mem); (case y9i => first | assumption | exact IntsAre.nil); (case y9j => first | exact IntsAre.nil | assumption); (case y9u => (dsimp only [Around.deeper, ar]; (refine Nat.lt_of_le_of_lt ?_ (by assumption)); simp))))))) | (refine Stop.out (n := 3) ?_; (first | ((k_dflt (refine' set_of_n ?y9h ?y9F ?y9N ?y9m ?y9i ?y9l ?_; (case y9h => exact rfl); (case y9F => k_asm); (case y9N => k_asm); (case y9m => k_mem); (case y9i => assumption); (case y9l => (refine Nat.le_trans (List.length_filter_le _ _) ?_; omega))); intro D9q h9q o9q tk9q F9q N9q l9q hs9q hz9q; (try k_lt l9q))))) | (refine Stop.out (n := 4) ?_; (first | ((k_dflt (refine' sorted_set ?y9h ?y9F ?y9N ?y9m ?y9d ?_; (case y9h => exact rfl); (case y9F => k_asm); (case y9N => k_asm); (case y9m => k_mem); (case y9d => assumption)); intro D9q h9q vs9q c9q tk9q F9q N9q l9q hi9q hl9q; (try k_lt l9q))))) | (refine Stop.out (n := 5) ?_; (first | ((k_dflt (refine' len_v ?y9N ?y9m ?y9z ?_; (case y9N => k_asm); (case y9m => k_mem); (case y9z => omega)); intro t9q tk9q)))) | (refine Stop.out (n := 6) ?_; (first | (((with_reducible show wpAny _ _ (subscriptTail _ _ (Value.ref _) (Value.int _ _)) _ _ _); (k_dflt (refine' item_ni ?y9N ?y9m ?y9i ?y9a ?y9b ?y9c ?_; (case y9N => k_asm); (case y9m => k_mem); (case y9i => assumption); (case y9a => omega); (case y9b => omega); (case y9c => (simp; try omega)))); intro t9q)))) | (refine Stop.out (n := 7) ?_; (first | ((k_dflt (refine' tuple_list ?y9F ?y9N ?y9m ?y9z ?_; (case y9F => k_asm); (case y9N => k_asm); (case y9m => k_mem); (case y9z => omega)); intro D9q h9q F9q N9q l9q; (try k_lt l9q))))) | (refine Stop.out (n := 8) ?_; (first | ((k_dflt (refine' eq_tups ?y9a ?y9b ?y9u ?_; (case y9a => exact tupAt_r (NetRead.keeps (by assumption) (Fr.keep (by k_asm))) (by assumption) (by assumption)); (case y9b => exact tupAt_n (by k_asm) (by k_mem) (tupObj_of (by assumption))); (case y9u => (dsimp only [Around.deeper, ar]; (refine Nat.lt_of_le_of_lt ?_ (by assumption)); simp))))))) | (refine Stop.out (n := 9) ?_; (first | (first | ((with_reducible show wpAny _ _ (call (Value.ref 42) _) _ _ _); k_dflt (refine' kind_use ?y9B ?y9F ?y9X ?y9T ?y9N ?y9f ?y9k ?y9d ?y9u ?y9r ?y9c ?y91 ?y92 ?y9l ?_; (case y9B => k_asm); (case y9F => k_asm); (case y9X => k_asm); (case y9T => k_asm); (case y9N => k_asm); (case y9f => exact rfl); (case y9k => exact rfl); (case y9d => (dsimp only [Around.deeper, ar]; (refine Nat.lt_of_le_of_lt ?_ (by assumption)); simp)); (case y9u => (dsimp only [Around.deeper, ar]; (refine Nat.lt_of_le_of_lt ?_ (by assumption)); simp)); (case y9r => exact NetRead.keeps (by assumption) (Fr.keep (by k_asm))); (case y9c => omega); (case y91 => omega); (case y92 => omega); (case y9l => omega)); intro x9q t9q h9q tk9q F9q N9q hk9q; (try dsimp only at N9q)) | ((with_reducible show wpAny _ _ (call (Value.ref 49) _) _ _ _); k_dflt (refine' parts_use ?y9B ?y9F ?y9X ?y9T ?y9N ?y9f ?y9k ?y9d ?y9u ?y9r ?y9c ?y91 ?y92 ?y9l ?_; (case y9B => k_asm); (case y9F => k_asm); (case y9X => k_asm); (case y9T => k_asm); (case y9N => k_asm); (case y9f => exact rfl); (case y9k => exact rfl); (case y9d => (dsimp only [Around.deeper, ar]; (refine Nat.lt_of_le_of_lt ?_ (by assumption)); simp)); (case y9u => (dsimp only [Around.deeper, ar]; (refine Nat.lt_of_le_of_lt ?_ (by assumption)); simp)); (case y9r => exact NetRead.keeps (by assumption) (Fr.keep (by k_asm))); (case y9c => omega); (case y91 => omega); (case y92 => omega); (case y9l => omega)); intro t9q o9q p9q h9q tk9q F9q N9q hm9q ho9q hp9q; (try dsimp only at N9q)))))); k_steps)))
        · (try dsimp only)
          refine hQ _ _ _ (Fr.keep (by assumption)) ?_
          unfold joinedF keptF; rw [if_neg hA', if_pos hB, if_pos (by omega)]; rfl
        · (try dsimp only)
          rename (x9q == Str.ofString "and") = true => hand
          refine hQ _ _ _ (Fr.keep (by assumption)) ?_
          have e1 : c.kinds.getD (ab gg).toNat default = x9q := by rw [List.getD_eq_getElem?_getD, hk9q]; rfl
          have e2 : c.parts.getD (ab gg).toNat [] = p9q := by rw [List.getD_eq_getElem?_getD, hp9q]; rfl
          unfold joinedF keptF; rw [if_neg hA', if_pos hB, if_neg (by omega), if_pos (by assumption), e1, if_pos hand, e2]
        · (try dsimp only)
          rename (x9q == Str.ofString "and") = false => hand
          refine hQ _ _ _ (Fr.keep (by assumption)) ?_
          have e1 : c.kinds.getD (ab gg).toNat default = x9q := by rw [List.getD_eq_getElem?_getD, hk9q]; rfl
          unfold joinedF keptF; rw [if_neg hA', if_pos hB, if_neg (by omega), if_pos (by assumption), e1, hand]; rfl
        · (try dsimp only)
          rename_i hl2 hg0
          refine hQ _ _ _ (Fr.keep (by assumption)) ?_
          have e0 : decide (0 < gg) = false := by simpa using hg0
          unfold joinedF keptF; rw [if_neg hA', if_pos hB, if_neg (by omega), if_neg hg0, e0]
    · (try dsimp only)
      rename_i hx2
      have hB : ¬ List.filter (fun a => ns.any fun x => x == 0 - a) ns = [] := by simpa using hx2
      refine hQ _ _ _ (Fr.keep (by assumption)) ?_
      unfold joinedF; rw [if_neg hA', if_neg hB]
end
end Mine
end
-- text Meth5
section
open PySem PySem.W PySem.Calls PyProof.Rows
set_option Elab.async false
set_option maxRecDepth 100000
set_option linter.unusedVariables false
namespace Mine
noncomputable def Has (c : Circ) (gg : Int) : Prop := (ab gg).toNat < c.kinds.length ∧ (ab gg).toNat < c.parts.length
theorem ab_neg (g : Int) : ab (0 - g) = ab g := by unfold ab; split <;> split <;> omega
theorem Has.neg {c : Circ} {g : Int} (h : Has c g) : Has c (0 - g) := by unfold Has; rw [ab_neg]; exact h
theorem allOf_grow (c : Circ) (ns : List Int) : c.kinds.length ≤ (allOf c ns).1.kinds.length ∧ c.parts.length ≤ (allOf c ns).1.parts.length := by
  unfold allOf
  split
  · exact ⟨Nat.le_refl _, Nat.le_refl _⟩
  · split
    · exact ⟨Nat.le_refl _, Nat.le_refl _⟩
    · split
      · exact ⟨Nat.le_refl _, Nat.le_refl _⟩
      · simp
theorem Has.allOf {c : Circ} {g : Int} (h : Has c g) (ns : List Int) : Has (allOf c ns).1 g := ⟨Nat.lt_of_lt_of_le h.1 (allOf_grow c ns).1, Nat.lt_of_lt_of_le h.2 (allOf_grow c ns).2⟩
theorem Has.implies {c : Circ} {g : Int} (h : Has c g) (x y : Int) : Has (implies c x y).1 g := h.allOf _
section
variable {w : World} {mean : ExcName → Option Value} {mg mb : Str → Option Value} {base g : Heap} {dp un : Nat} {gd : Option (List Code)} {fr : List Env} {s : Shared} {a : NA} {tl R : List (Addr × Obj)} {c : Circ}
    {A₀ : Around} {env : Env} {L : Addr} {m : Str → Option Value} {Q E : Value → Shared → Prop} {news : List (Addr × Obj)} {ok op od : Obj}
theorem netRead_of (F : Fr g L s.heap m) (N : News g L s.heap news) (m1 : (a.ks, ok) ∈ news) (m2 : (a.ps, op) ∈ news) (m3 : (a.kn, od) ∈ news) (O : NetObj w tl ok op od c) (P : Pool g a R tl) (hR : ∀ p ∈ R, p ∈ news) (G : NetG g a) : NetRead w s.heap a tl c where
  G := G.keeps F.keep
  objs := ⟨ok, op, od, N.get m1, N.get m2, N.get m3, O⟩
  pool := fun p hp => (P.inn p hp).elim (fun h => N.get (hR p h)) fun h => F.keep _ _ h
theorem joined_use {ga : Addr} {gg : Int} {tg : Tok} {vs : List Value} {ns : List Int} {n : Nat}
    (B : Below A₀ base fr g) (F : Fr g L s.heap m) (X : (hd.heap_39 w.params).In g) (T : TT mean mg mb g) (N : News g L s.heap news) (hf : env.frame = some L) (hke : env.scope.kind = .function)
    (hd' : dp + 4 < recursionLimit) (hu : un + 200 < cLine) (hr : NetRead w s.heap a tl c) (hl : s.heap.IsList ga (List.toArray vs)) (hi : IntsAre vs ns) (hn : ns.length ≤ 3) (hs : Small c n) (hz : n ≤ 900) (hh : Has c gg)
    (k : ∀ h' tk', Fr g L h' m → News g L h' news → s.heap.StaysIn h' → Q (.bool (joinedF c ns gg)) { s with heap := h', toks := tk' }) :
    wpAny (model PG w) (ar dp un gd (env :: fr)) (call (.ref 157) [.ref a.net, .ref ga, .int gg tg]) Q E s :=
  use_read (P₀ := fun g => NetRead w g a tl c ∧ g.IsList ga (List.toArray vs)) (PV := fun _ v _ => v = .bool (joinedF c ns gg))
    (joined_ctr w mean mg mb a tl c (by unfold Small at hs; omega) (by unfold Small at hs; omega) ga gg tg vs ns hi hn hh.1 hh.2) B F X T N hf hke hd' hu ⟨hr, hl⟩
    fun v h' tk' F' N' st p => by subst p; exact k h' tk' F' N' st
end
end Mine
end
-- text Grown
section
open PySem PySem.W PySem.Calls PyProof.Rows
set_option Elab.async false
set_option maxRecDepth 100000
set_option linter.unusedVariables false
namespace Mine
inductive RowsP (rl : List (Addr × Obj)) : List Value → List (List Bool) → Prop
  | nil : RowsP rl [] []
  | cons {r : Addr} {n : Nat} {bs : List Bool} {vs bss} : (r, PySem.W.listOf (List.toArray (bs.map Value.bool)) n) ∈ rl → RowsP rl vs bss → RowsP rl (.ref r :: vs) (bs :: bss)
theorem RowsP.mono {rl rl' : List (Addr × Obj)} {vs bss} (h : RowsP rl vs bss) (s : ∀ p ∈ rl, p ∈ rl') : RowsP rl' vs bss := by
  induction h with
  | nil => exact .nil
  | cons a _ ih => exact .cons (s _ a) ih
theorem RowsP.rows {rl : List (Addr × Obj)} {h : Heap} {vs bss} (x : RowsP rl vs bss) (k : ∀ p ∈ rl, h.get? p.1 = some p.2) : RowsAre h vs bss := by
  induction x with
  | nil => exact .nil
  | cons a _ ih => exact .cons ⟨_, k _ a, rfl, _, rfl⟩ ih
theorem RowsP.append {rl : List (Addr × Obj)} {vs bss us css} (x : RowsP rl vs bss) (y : RowsP rl us css) : RowsP rl (vs ++ us) (bss ++ css) := by
  induction x with
  | nil => exact y
  | cons a _ ih => exact .cons a ih
theorem RowsP.length {rl : List (Addr × Obj)} {vs bss} (x : RowsP rl vs bss) : vs.length = bss.length := by
  induction x with
  | nil => rfl
  | cons a _ ih => simp [ih]
theorem RowsP.at {rl : List (Addr × Obj)} {vs bss} (x : RowsP rl vs bss) {i : Nat} {v : Value} (hv : vs[i]? = some v) : ∃ r n bs, v = .ref r ∧ (r, PySem.W.listOf (List.toArray (bs.map Value.bool)) n) ∈ rl ∧ bss[i]? = some bs := by
  induction x generalizing i with
  | nil => simp at hv
  | @cons r n bs _ _ a _ ih =>
    cases i with
    | zero => simp at hv; exact ⟨r, n, bs, hv.symm, a, rfl⟩
    | succ i => simpa using ih (by simpa using hv)
noncomputable def TailSub (add W : List (Addr × Obj)) : Prop := ∀ p ∈ add, p ∈ W
theorem pool_rows {g : Heap} {add rl W news : List (Addr × Obj)} (t : TailSub add W) (hrl : ∀ p ∈ rl, g.get? p.1 = some p.2) (hn : ∀ p ∈ W, p ∈ news) : ∀ p ∈ add ++ rl, p ∈ news ∨ g.get? p.1 = some p.2 := fun p hp =>
  (List.mem_append.mp hp).elim (fun h => .inl (hn p (t p h))) fun h => .inr (hrl p h)
noncomputable def rowOf (ts : List (List Bool)) (p : List Int) : List Bool := (List.range (ts.getD 1 []).length).map fun r => decide ((p.filter fun x => !truthF ts x r) = [])
noncomputable def growN (c : Circ) (ts : List (List Bool)) (sn : List (List Int)) : Nat → List (List Bool) × List (List Int)
  | 0 => (ts, sn)
  | k + 1 => ((growN c ts sn k).1 ++ [rowOf (growN c ts sn k).1 (c.parts.getD (ts.length + k) [])], (growN c ts sn k).2 ++ [c.parts.getD (ts.length + k) []])
structure GateOk (c : Circ) (sn : List (List Int)) (g : Nat) : Prop where
  kind : c.kinds[g]? = some (Str.ofString "and")
  len : g < c.parts.length
  two : 2 ≤ (c.parts.getD g []).length
  four : (c.parts.getD g []).length ≤ 4
  sorted : c.parts.getD g [] = isort (dd (c.parts.getD g []))
  plain : (List.filter (fun a => (c.parts.getD g []).any fun x => x == 0 - a) (c.parts.getD g [])) = []
  under : ∀ x ∈ c.parts.getD g [], 1 < ab x ∧ ab x < g
  new : c.parts.getD g [] ∉ sn
theorem growN_length (c : Circ) (ts : List (List Bool)) (sn : List (List Int)) : ∀ k, (growN c ts sn k).1.length = ts.length + k
  | 0 => rfl
  | k + 1 => by simp [growN, growN_length c ts sn k]; omega
theorem growN_old (c : Circ) (ts : List (List Bool)) (sn : List (List Int)) {j : Nat} (hj : j < ts.length) : ∀ k, (growN c ts sn k).1.getD j [] = ts.getD j []
  | 0 => rfl
  | k + 1 => by
    have ih := growN_old c ts sn hj k
    rw [← ih]
    simp only [growN, List.getD_eq_getElem?_getD]
    rw [List.getElem?_append_left (by rw [growN_length]; omega)]
theorem growN_row (c : Circ) (ts : List (List Bool)) (sn : List (List Int)) {R : Nat} (h2 : 2 ≤ ts.length) (h : ∀ i, 1 ≤ i → i < ts.length → (ts.getD i []).length = R) : ∀ k j, 1 ≤ j → j < ts.length + k → ((growN c ts sn k).1.getD j []).length = R
  | 0, j, h1, hj => h j h1 (by omega)
  | k + 1, j, h1, hj => by
    by_cases hk : j < ts.length + k
    · have := growN_row c ts sn h2 h k j h1 hk
      rw [← this]
      simp only [growN, List.getD_eq_getElem?_getD]
      rw [List.getElem?_append_left (by rw [growN_length]; omega)]
    · have e : j = (growN c ts sn k).1.length := by rw [growN_length]; omega
      subst e
      simp only [growN, List.getD_eq_getElem?_getD, List.getElem?_concat_length]
      simp only [Option.getD_some, rowOf, List.length_map, List.length_range]
      exact growN_row c ts sn h2 h k 1 (Nat.le_refl _) (by omega)
theorem growN_length2 (c : Circ) (ts : List (List Bool)) (sn : List (List Int)) : ∀ k, (growN c ts sn k).2.length = sn.length + k
  | 0 => rfl
  | k + 1 => by simp [growN, growN_length2 c ts sn k]; omega
section
variable {w : World} {mean : ExcName → Option Value} {mg mb : Str → Option Value} {base g : Heap} {dp un : Nat} {gd : Option (List Code)} {fr : List Env} {s : Shared} {a : NA} {tl R : List (Addr × Obj)} {c : Circ}
    {A₀ A : Around} {env : Env} {L : Addr} {m : Str → Option Value} {Q E : Value → Shared → Prop} {news : List (Addr × Obj)}
theorem kind_and {gg : Int} {t0 : Tok} {n : Nat}
    (B : Below A₀ base fr g) (F : Fr g L s.heap m) (X : (hd.heap_39 w.params).In g) (T : TT mean mg mb g) (N : News g L s.heap news) (hf : env.frame = some L) (hke : env.scope.kind = .function)
    (hd' : dp + 2 < recursionLimit) (hu : un + 10 < cLine) (hr : NetRead w g a tl c) (hs : Small c n) (hz : n ≤ 900) (hh : Has c gg) {x : Str} (hx : c.kinds[(ab gg).toNat]? = some x)
    (k : ∀ t h' tk', Fr g L h' m → News g L h' news → Q (.str x t) { s with heap := h', toks := tk' }) :
    wpAny (model PG w) (ar dp un gd (env :: fr)) (call (.ref 42) [.ref a.net, .int gg t0]) Q E s := by
  have hb : -1000 ≤ gg ∧ gg ≤ 1000 := by have := hh.1; have := hs.1; unfold ab at *; split at * <;> omega
  refine kind_use B F X T N hf hke hd' hu (hr.keeps F.keep) (by have := hs.1; omega) hb.1 hb.2 hh.1 fun x' t h' tk' F' N' e => ?_
  rw [hx] at e
  cases e
  exact k t h' tk' F' N'
theorem parts_at {gg : Int} {t0 : Tok} {n : Nat} {p : List Int}
    (B : Below A₀ base fr g) (F : Fr g L s.heap m) (X : (hd.heap_39 w.params).In g) (T : TT mean mg mb g) (N : News g L s.heap news) (hf : env.frame = some L) (hke : env.scope.kind = .function)
    (hd' : dp + 2 < recursionLimit) (hu : un + 10 < cLine) (hr : NetRead w g a tl c) (hs : Small c n) (hz : n ≤ 900) (hh : Has c gg) (hx : c.parts[(ab gg).toNat]? = some p)
    (k : ∀ t h' tk', Fr g L h' m → News g L h' news → TupAt g t p → (∃ o, (t, o) ∈ tl ∧ TupObj p o) → Q (.ref t) { s with heap := h', toks := tk' }) :
    wpAny (model PG w) (ar dp un gd (env :: fr)) (call (.ref 49) [.ref a.net, .int gg t0]) Q E s := by
  have hb : -1000 ≤ gg ∧ gg ≤ 1000 := by have := hh.1; have := hs.1; unfold ab at *; split at * <;> omega
  refine parts_use B F X T N hf hke hd' hu (hr.keeps F.keep) (by have := hs.2.1; omega) hb.1 hb.2 hh.2 fun t o p' h' tk' F' N' hm ho e => ?_
  rw [hx] at e
  cases e
  exact k t h' tk' F' N' ⟨o, hr.pool _ hm, ho⟩ ⟨o, hm, ho⟩
theorem ne_tups_same {t u : Addr} {p : List Int} (F : Fr g L s.heap m) (ht : TupAt g t p) (hu : TupAt g u p) (hr : A.units + 64 < cLine) (k : Q (.bool false) s) : wpAny (model PG w) A (compareOp .NotEq (.ref t) (.ref u)) Q E s :=
  ne_tups (ht.keeps F.keep) (hu.keeps F.keep) hr (by simpa using k)
theorem ne_ints_same {x y : Addr} {xs ys : List Value} {n1 n2 : Nat} {ns ms : List Int} (N : News g L s.heap news) (m1 : (x, PySem.W.listOf (List.toArray xs) n1) ∈ news) (m2 : (y, PySem.W.listOf (List.toArray ys) n2) ∈ news) (hi : IntsAre xs ns) (hj : IntsAre ys ms) (he : ns = ms)
    (hu : A.units + 64 < cLine) (k : Q (.bool false) s) : wpAny (model PG w) A (compareOp .NotEq (.ref x) (.ref y)) Q E s :=
  ne_ints_n N m1 m2 hi hj hu (by simpa [he] using k)
theorem eq_ints_n {x y : Addr} {xs ys : List Value} {n1 n2 : Nat} {ns ms : List Int} (N : News g L s.heap news) (m1 : (x, PySem.W.listOf (List.toArray xs) n1) ∈ news) (m2 : (y, PySem.W.listOf (List.toArray ys) n2) ∈ news) (hi : IntsAre xs ns) (hj : IntsAre ys ms)
    (hu : A.units + 64 < cLine) (k : Q (.bool (decide (ns = ms))) s) : wpAny (model PG w) A (compareOp .Eq (.ref x) (.ref y)) Q E s :=
  ke_eq_ints ⟨_, N.get m1, rfl, n1, rfl⟩ ⟨_, N.get m2, rfl, n2, rfl⟩ hi hj hu k
theorem in_tups_not {l t : Addr} {n1 : Nat} {sv : List Value} {sn : List (List Int)} {p : List Int} (F : Fr g L s.heap m) (N : News g L s.heap news) (hm : (l, PySem.W.listOf (List.toArray sv) n1) ∈ news) (hp : PartsAre tl sv sn) (pool : ∀ p ∈ tl, g.get? p.1 = some p.2) (ht : TupAt g t p) (hn : p ∉ sn) (hu : A.units + 1 < cLine)
    (k : Q (.bool false) s) : wpAny (model PG w) A (compareOp .In (.ref t) (.ref l)) Q E s :=
  in_tups ⟨_, N.get hm, rfl, n1, rfl⟩ hp (fun p hp => F.keep _ _ (pool p hp)) (ht.keeps F.keep) hu (by rw [decide_eq_false hn]; exact k)
theorem len_tupAt {t : Addr} {p : List Int} (F : Fr g L s.heap m) (ht : TupAt g t p) (hz : p.length ≤ 1000) (k : ∀ u tk, Q (.int (p.length : Int) u) { s with toks := tk }) : wpAny (model PG w) A (call (.builtin "len") [.ref t]) Q E s := by
  obtain ⟨o, ho, tt⟩ := ht.keeps F.keep
  obtain ⟨ws, n, rfl, hi⟩ := tt
  have := hi.length
  refine len_t (vs := ws) (n := n) ⟨_, ho, rfl, rfl⟩ (by omega) fun u tk => ?_
  rw [this]; exact k u tk
theorem list_tupAt {t : Addr} {p : List Int} (F : Fr g L s.heap m) (N : News g L s.heap news) (ht : TupAt g t p) (hz : p.length ≤ 1000)
    (k : ∀ D vs n h', Fr g L h' m → News g L h' ((D, PySem.W.listOf (List.toArray vs) n) :: news) → (∀ q ∈ news, q.1 < D) → IntsAre vs p → Q (.ref D) { s with heap := h' }) :
    wpAny (model PG w) A (call (.type "list") [.ref t]) Q E s := by
  obtain ⟨o, ho, tt⟩ := ht.keeps F.keep
  obtain ⟨ws, n, rfl, hi⟩ := tt
  have := hi.length
  exact list_copyKT (items := List.toArray ws) F N ⟨_, ho, rfl, n, rfl⟩ (fun D c h' F' N' l1 => k D ws c h' F' N' l1 hi) (by rw [sizeLine_eq]; simp; omega)
theorem set_tupAt {t : Addr} {p : List Int} (hh : A.handled = none) (F : Fr g L s.heap m) (N : News g L s.heap news) (ht : TupAt g t p) (h4 : p.length ≤ 4)
    (k : ∀ D h' o' tk, Fr g L h' m → News g L h' ((D, o') :: news) → (∀ q ∈ news, q.1 < D) → NeatO w o' (dd p) → Q (.ref D) { s with heap := h', toks := tk }) :
    wpAny (model PG w) A (call (.type "set") [.ref t]) Q E s := by
  obtain ⟨o, ho, tt⟩ := ht.keeps F.keep
  obtain ⟨ws, n, rfl, hi⟩ := tt
  exact set_N (vs := ws) hh F N (.inr ⟨_, ho, rfl, n, rfl⟩) hi h4 k
theorem in_tupAt {t : Addr} {p : List Int} {x : Int} {tx : Tok} (F : Fr g L s.heap m) (ht : TupAt g t p) (k : Q (.bool (p.any fun y => y == x)) s) : wpAny (model PG w) A (compareOp .In (.int x tx) (.ref t)) Q E s := by
  obtain ⟨o, ho, tt⟩ := ht.keeps F.keep
  obtain ⟨ws, n, rfl, hi⟩ := tt
  refine SeqAt.in_tupleAt (fun v => match v with | .int y _ => y == x | _ => false) (items := List.toArray ws) ⟨_, ho, rfl, n, rfl⟩ (fun y hy => ?_) ?_
  · obtain ⟨z, tz, rfl⟩ := hi.all y (by simpa using hy)
    exact SeqAt.EqAt.int_int _ _ _ _
  · have : (List.toArray ws).any (fun v => match v with | .int y _ => y == x | _ => false) = p.any fun y => y == x := by
      rw [List.any_toArray]
      clear ho ht k
      induction hi with
      | nil => rfl
      | cons n t hr ih => rw [List.any_cons, List.any_cons, ih]
    rw [this]; exact k
theorem truth_use {tb : Addr} {rs : List Value} {ts : List (List Bool)} {gg : Int} {tg : Tok} {row : Int} {tr : Tok} {n1 : Nat} {rl : List (Addr × Obj)}
    (B : Below A₀ base fr g) (F : Fr g L s.heap m) (X : (hd.heap_39 w.params).In g) (T : TT mean mg mb g) (N : News g L s.heap news) (hf : env.frame = some L) (hke : env.scope.kind = .function)
    (hd' : dp + 2 < recursionLimit) (hu : un + 10 < cLine) (hm : (tb, PySem.W.listOf (List.toArray rs) n1) ∈ news) (hrs : RowsP rl rs ts) (pool : ∀ p ∈ rl, p ∈ news ∨ g.get? p.1 = some p.2)
    (hts : ts.length ≤ 1000) (hlt : (ab gg).toNat < ts.length) (h0 : 0 ≤ row) (hr : row ≤ 100) (hrow : row.toNat < (ts.getD (ab gg).toNat []).length)
    (k : ∀ h' tk', Fr g L h' m → News g L h' news → Q (.bool (truthF ts gg row.toNat)) { s with heap := h', toks := tk' }) :
    wpAny (model PG w) (ar dp un gd (env :: fr)) (call (.ref 176) [.ref tb, .int gg tg, .int row tr]) Q E s := by
  have hb : -1000 ≤ gg ∧ gg ≤ 1000 := by unfold ab at *; split at * <;> omega
  obtain ⟨r, rfl⟩ := Int.eq_ofNat_of_zero_le h0
  simp only [Int.toNat_natCast] at hrow k
  exact use_read (P₀ := fun g => g.IsList tb (List.toArray rs) ∧ RowsAre g rs ts) (PV := fun _ v _ => v = .bool (truthF ts gg r)) (truth_ctr w mean mg mb tb rs ts gg tg r tr hts hb.1 hb.2 hlt (by omega) hrow) B F X T N hf hke hd' hu
    ⟨⟨_, N.get hm, rfl, n1, rfl⟩, hrs.rows fun p hp => (pool p hp).elim (fun h => N.get h) fun h => F.keep _ _ h⟩
    fun v h' tk' F' N' st p => by subst p; exact k h' tk' F' N'
end
end Mine
end
-- text LoopsT
section
open PySem PySem.W PySem.Calls PyProof.Rows
set_option Elab.async false
set_option maxRecDepth 100000
set_option linter.unusedVariables false
namespace Mine
noncomputable def TailNe (tail : List (Addr × Obj)) (d : Addr) : Prop := ∀ p ∈ tail, @Ne Nat p.1 d
theorem all_cons {p : Addr × Obj} {r : List (Addr × Obj)} {d : Addr} (h : @Ne Nat p.1 d) (k : ∀ q ∈ r, q.1 ≠ d) : ∀ q ∈ p :: r, q.1 ≠ d := fun q hq => by
  rcases List.mem_cons.mp hq with rfl | hq
  · exact h
  · exact k q hq
theorem all_nil {d : Addr} : ∀ q ∈ ([] : List (Addr × Obj)), q.1 ≠ d := fun _ h => nomatch h
theorem all_tail {r : List (Addr × Obj)} {d : Addr} (h : TailNe r d) : ∀ q ∈ r, q.1 ≠ d := h
theorem tail_own {W add own : List (Addr × Obj)} {d : Addr} {l : List Addr} (e : W = add ++ own) (h : TailNe add d) (o : OwnOff own l) (hd : d ∈ l) : TailNe W d := by
  subst e
  intro p hp
  rcases List.mem_append.mp hp with hp | hp
  · exact h p hp
  · exact o p hp d hd
theorem tail_nil {d : Addr} : TailNe [] d := fun _ h => nomatch h
theorem off1_mem {D : Addr} : ∀ {l : List (Addr × Obj)}, LCg.Off1 D l → ∀ p ∈ l, @Ne Nat p.1 D
  | [], _, p, hp => nomatch hp
  | q :: r, h, p, hp => by
    rcases List.mem_cons.mp hp with rfl | hp
    · exact h.1
    · exact off1_mem h.2 p hp
section
variable {w : World} {A : Around} {E : Value → Shared → Prop} {s : Shared} {env : Env} {h₀ : Heap} {target : Expr} {body : List Stmt} {Q : Flow → Shared → Prop}
/-- the end of a turn that goes on -/
noncomputable def NextEnd (h₀ : Heap) (L : Addr) (J : (Str → Option Value) → List (Addr × Obj) → Prop) (own : List (Addr × Obj)) (s₁ : Shared) (f : Flow) (s₂ : Shared) : Prop := f = .next ∧ InvEndG h₀ L J own s₁ s₂
theorem for_coreT {I : Addr} {fp : List Addr} {n : Nat} {P : Nat → Value → Prop} {St : Nat → Heap → Prop} {m₀ : Str → Option Value} {news : List (Addr × Obj)} (J : Nat → (Str → Option Value) → List (Addr × Obj) → Prop)
    (W : Walks PG w A I fp [I] n P St) (hfp : ∀ b ∈ fp, b = I ∨ ∃ o, h₀.get? b = some o) (hob : ∀ i h, St i h → ∃ o, h.get? I = some o) (hL : env.locals ∉ fp) (hI0 : h₀.get? I = none) (hnw : ∀ p ∈ news, p.1 ≠ I) (hst : St 0 s.heap)
    (F : Fr h₀ env.locals s.heap m₀) (N : News h₀ env.locals s.heap news) (hj : J 0 m₀ news) (hgo : ∀ v, letOwnedTupleGo target (.ref I) v = pure ())
    (turn : ∀ i v m₁ nx s₁ own, i < n → P i v → OwnOff own (nx.map (·.1)) → J i m₁ nx → Fr h₀ env.locals s₁.heap m₁ → News h₀ env.locals s₁.heap (nx ++ own) →
      wpAny (model PG w) A (assign target env v) (fun _ s₃ => wpAny (model PG w) A (execs body env) (NextEnd h₀ env.locals (J (i + 1)) own s₁) E s₃) E s₁)
    (done : ∀ m₁ nx h tk, J n m₁ nx → Fr h₀ env.locals h m₁ → News h₀ env.locals h nx → Q .next { s with heap := h, toks := tk }) :
    LoopAtT PG w A h₀ env target body Q E (.ref I) s := by
  refine ⟨I, fp, [I], n, P, St, m₀, news, J, rfl, W, hL, (fun b hb => by rw [List.mem_singleton.mp hb]; exact hI0), (fun p hp hb => hnw p hp (List.mem_singleton.mp hb)), hst, F, N, (fun i s' v Q' _ h => by rw [hgo]; exact wpAny_pure h), hj, ?_, ?_⟩
  · intro i v m₁ nx s₁ own hin hP hJ hoff hown hget hall hst' F₁ N₁
    have hI : ∀ p ∈ own, p.1 = I := fun p hp => by
      rcases hfp _ (hown p hp) with e | ⟨o, e⟩
      · exact e
      · have := (N₁ p (List.mem_append_left _ hp)).2.2
        rw [e] at this; cases this
    have hsep : OwnOff own (nx.map (·.1)) := by
      intro p hp b hb e
      obtain ⟨q, hq, rfl⟩ := List.mem_map.mp hb
      exact hoff q hq (List.mem_singleton.mpr (by rw [← e]; exact hI p hp))
    have N₂ : News h₀ env.locals s₁.heap (nx ++ own) := fun p hp => N₁ p ((List.mem_append.mp hp).elim (fun h => List.mem_append.mpr (.inr h)) fun h => List.mem_append.mpr (.inl h))
    refine wpAny_mono (turn i v m₁ nx s₁ own hin hP hsep hJ F₁ N₂) (fun _ s₃ h₃ => wpAny_mono h₃ (fun f s₄ p => ?_) fun _ _ e => e) fun _ _ e => e
    obtain ⟨rfl, h', tk, m', news', nx', rfl, F', N', hn, ho, ha, hm⟩ := p
    refine ⟨rfl, h', tk, m', nx', rfl, F', fun p hp => N' p ((List.mem_append.mp hp).elim (ho p) (hn p)), fun p hp hq => ?_, hm⟩
    obtain ⟨o, hbo⟩ := hob _ _ hst'
    have hmem := hall I (W.sub _ (List.mem_singleton.mpr rfl)) hI0 o hbo
    exact ha _ hmem p.1 (List.mem_map.mpr ⟨p, hp, rfl⟩) (List.mem_singleton.mp hq).symm
  · rintro h' tk m' news' F' N' _ hJ
    exact done m' news' h' tk hJ F' N'
theorem next_end {J : (Str → Option Value) → List (Addr × Obj) → Prop} {L : Addr} {m' : Str → Option Value} {own nx : List (Addr × Obj)} {s₁ : Shared} {h' : Heap} {tk : Nat} {news' : List (Addr × Obj)} (F : Fr h₀ L h' m') (N : News h₀ L h' news')
    (hn : ∀ p ∈ nx, p ∈ news') (ho : ∀ p ∈ own, p ∈ news') (ha : OwnOff own (nx.map (·.1))) (hj : J m' nx) : NextEnd h₀ L J own s₁ .next { s₁ with heap := h', toks := tk } :=
  ⟨rfl, InvEndG.intro F N hj ha hn ho⟩
/-- for target in range(a₀, b₀), whose body always goes on -/
theorem for_rangeT {r : Addr} {a₀ b₀ : Int} {t₀ u₀ v₀ : Tok} {n : Nat} {m₀ : Str → Option Value} {news : List (Addr × Obj)} (J : Nat → (Str → Option Value) → List (Addr × Obj) → Prop)
    (hh : A.handled = none) (hr : IsRange s.heap r a₀ b₀ 1 t₀ u₀ v₀) (hsmall : Builtin.Range.small a₀ b₀ 1 = true) (hsz : Builtin.Range.rangeSize a₀ b₀ 1 = (n : Int))
    (F : Fr h₀ env.locals s.heap m₀) (N : News h₀ env.locals s.heap news) (hj : J 0 m₀ news) (hgo : ∀ I v, letOwnedTupleGo target (.ref I) v = pure ())
    (turn : ∀ (i : Nat) t m₁ nx s₁ own, i < n → OwnOff own (nx.map (·.1)) → J i m₁ nx → Fr h₀ env.locals s₁.heap m₁ → News h₀ env.locals s₁.heap (nx ++ own) →
      wpAny (model PG w) A (assign target env (.int (a₀ + (i : Int)) t)) (fun _ s₃ => wpAny (model PG w) A (execs body env) (NextEnd h₀ env.locals (J (i + 1)) own s₁) E s₃) E s₁)
    (done : ∀ m₁ nx h tk, J n m₁ nx → Fr h₀ env.locals h m₁ → News h₀ env.locals h nx → Q .next { s with heap := h, toks := tk }) :
    wpAny (model PG w) A (pyIter (.ref r)) (fun it s₂ => LoopAtT PG w A h₀ env target body Q E it s₂) E s := by
  refine wpAny_pyIter_range hr hsmall ?_
  have W : Walks PG w A s.heap.objs.size [s.heap.objs.size] [s.heap.objs.size] n (fun i v => ∃ t, v = .int (a₀ + i * 1) t)
      (fun i h => IsRangeIter h s.heap.objs.size (a₀ + (i : Nat) * 1) ((n : Int) - (i : Nat)) 1) := Walks.range hh _ a₀ 1 n
  refine for_coreT J W (fun b hb => .inl (List.mem_singleton.mp hb)) (fun i h hi => ⟨_, hi⟩) ?_ (next_is_new F) (fun p hp e => absurd (Heap.lt_size (N p hp).1) (e ▸ Nat.lt_irrefl _)) (by show IsRangeIter _ _ _ _ _; rw [hsz]; simpa using Heap.get?_push_size _ rfl) (F.push _) (fun p hp => ⟨Heap.get?_push_of_some _ (N p hp).1, (N p hp).2⟩) hj (hgo _) ?_ (fun m₁ nx h tk => done m₁ nx h tk)
  · intro hm
    exact absurd F.ns.lt ((List.mem_singleton.mp hm) ▸ Nat.lt_irrefl _)
  · rintro i v m₁ nx s₁ own hi ⟨t, rfl⟩ hoff hJ F₁ N₁
    have e1 : a₀ + (i : Int) * 1 = a₀ + (i : Int) := by omega
    rw [e1]
    exact turn i t m₁ nx s₁ own hi hoff hJ F₁ N₁
theorem news_two {g h : Heap} {L t b : Addr} {o1 o2 : Obj} {l : List (Addr × Obj)} (a1 : h.get? t = some o1) (a2 : t ≠ L) (a3 : g.get? t = none) (b1 : h.get? b = some o2) (b2 : b ≠ L) (b3 : g.get? b = none) (N : News g L h l) : News g L h ((t, o1) :: (b, o2) :: l) := by
  intro p hp
  rcases List.mem_cons.mp hp with rfl | hp
  · exact ⟨a1, a2, a3⟩
  rcases List.mem_cons.mp hp with rfl | hp
  · exact ⟨b1, b2, b3⟩
  · exact N p hp
end
end Mine
end
-- text Filt
section
open PySem PySem.W PySem.Calls PyProof.Rows
set_option Elab.async false
set_option maxRecDepth 100000
set_option linter.unusedVariables false
namespace Mine
section
variable {w : World} {A : Around} {E : Value → Shared → Prop} {s : Shared} {env : Env} {h₀ : Heap} {L : Addr} {m : Str → Option Value} {news : List (Addr × Obj)} {ct elt iter : Expr} {x : Str} {px pos : Pos} {scope : Scope} {cl : List (Str × Addr)} {Q : Value → Shared → Prop}
/-- [x for x in t if ..] over a tuple of ints -/
theorem comp_filter {t : Addr} {p : List Int} (q : Int → Bool) (ht : TupAt h₀ t p) (hz : p.length ≤ 1000) (hh : A.handled = none) (hcell : ∀ y ∈ scope.names, y.2 ≠ .cell) (hkind : scope.kind = .function) (hx : scope.names.lookup x = some .local)
    (F : Fr h₀ L s.heap m) (N : News h₀ L s.heap news)
    (turn : ∀ k tk I oI C oC D m₂ h tk' (E' : Value → Shared → Prop) ys, k ∈ p → LCg.NsObj oC m₂ → m₂ x = some (.int k tk) → Fr h₀ L h m → News h₀ L h ((I, oI) :: (C, oC) :: (D, LCg.lst ys) :: news) → LCg.Off3 I C D news → ((@Ne Nat I C) ∧ (@Ne Nat I D) ∧ (@Ne Nat C D)) →
      wpAny (model PG w) A (isTrue ct (compEnvC scope cl C env) (eval ct (compEnvC scope cl C env))) (fun ok s' => if ok = true then
        wpAny (model PG w) A (eval elt (compEnvC scope cl C env)) (TEnd h₀ L m { s with heap := h, toks := tk' } I oI C oC D ys (fun y nx' => nx' = news ∧ q k = true ∧ ∃ t', y = .int k t')) E' s'
        else TEnd h₀ L m { s with heap := h, toks := tk' } I oI C oC D ys (fun _ nx' => nx' = news ∧ q k = false) Value.none s') E' { s with heap := h, toks := tk' })
    (done : ∀ D h tk ys, IntsAre ys (p.filter q) → Fr h₀ L h m → News h₀ L h ((D, LCg.lst ys) :: news) → LCg.Off1 D news → Q (.ref D) { s with heap := h, toks := tk }) :
    wpAny (model PG w) A (pyIter (.ref t)) (fun it s₂ => CompAt w A E env scope cl (.ListComp elt [⟨.Name x px, iter, [ct], 0⟩] scope pos) Q it s₂) E s := by
  obtain ⟨o, ho, tt⟩ := ht
  obtain ⟨ws, n, rfl, hi⟩ := tt
  have hlen := hi.length
  have hsrc : ∀ nx, SrcSeq h₀ t ws nx := fun nx => .inl (.inr ⟨_, ho, rfl, n, rfl⟩)
  refine comp_seq_T (fun i ys nx => nx = news ∧ IntsAre ys ((p.take i).filter q)) hh hcell hkind hx (hsrc _) (by rw [sizeLine_eq]; omega) F N ⟨rfl, .nil⟩ (fun _ _ _ _ => hsrc _) ?_ ?_
  · rintro i v I oI C oC D m₂ h tk E' ys nx hin hv hoC hx F9 N9 off ne ⟨rfl, hys⟩
    obtain ⟨k, t, rfl, hk⟩ := hi.at i v hv
    refine wpAny_mono (turn k t I oI C oC D m₂ h tk E' ys (List.mem_of_getElem? hk) hoC hx F9 N9 off ne) (fun ok s' hok => ?_) fun _ _ e => e
    cases ok with
    | true =>
      simp only [if_true] at hok ⊢
      refine wpAny_mono hok (fun y s₂ hy => ?_) fun _ _ e => e
      obtain ⟨h', tk', nx', rfl, F', N', o', rfl, hq, t', rfl⟩ := hy
      refine TEnd.intro F' N' o' ⟨rfl, ?_⟩
      rw [take_filter hk, if_pos hq]
      exact hys.append (.cons _ _ .nil)
    | false =>
      simp only [Bool.false_eq_true, if_false] at hok ⊢
      obtain ⟨h', tk', nx', rfl, F', N', o', rfl, hq⟩ := hok
      refine TEnd.intro F' N' o' ⟨rfl, ?_⟩
      rw [take_filter hk, if_neg (by rw [hq]; exact Bool.noConfusion)]
      exact hys
  · rintro D h tk ys nx ⟨rfl, hys⟩ F9 N9 o1
    rw [hlen, List.take_length] at hys
    exact done D h tk ys hys F9 N9 o1
theorem append_n {D : Addr} {v : Value} {vs : List Value} {n : Nat} {gf : Obj → List (Addr × Obj)} (F : Fr h₀ L s.heap m) (N : News h₀ L s.heap news) (U : UpdF D (PySem.W.listOf (List.toArray vs) n) news gf) (hz : vs.length ≤ 100000)
    (k : ∀ h', Fr h₀ L h' m → News h₀ L h' (gf (PySem.W.listOf (List.toArray (vs ++ [v])) (n + 1))) → Q .none { s with heap := h' }) :
    wpAny (model PG w) A (call (.builtin "list.append") [.ref D, v]) Q E s := by
  obtain ⟨pre, post, rfl, hg, h1, h2⟩ := U.split
  have hm := N (D, PySem.W.listOf (List.toArray vs) n) (List.mem_append_right _ (.head _))
  refine append_at (its := List.toArray vs) (n := n) hm.1 (fun h' hs he => ?_) (by rw [sizeLine_eq]; simp; omega)
  have he' : h'.get? D = some (PySem.W.listOf (List.toArray (vs ++ [v])) (n + 1)) := by rw [he]; simp [PySem.W.listOf]
  exact k h' (F.change hs hm.2.1 hm.2.2) (hg _ ▸ N.setIn h1 h2 hs he')
theorem seqIn_len {l : Addr} {vs : List Value} (h : s.heap.IsList l (List.toArray vs)) (hz : vs.length ≤ 100000) (k : ∀ t tk, Q (.int (vs.length : Int) t) { s with toks := tk }) : wpAny (model PG w) A (call (.builtin "len") [.ref l]) Q E s := by
  refine PyProof.Rows.len_list h (by simp; omega) ?_
  simp only [List.size_toArray]
  exact k _ _
end
end Mine
end
-- text D15
section
open PySem PySem.W PySem.Calls PyProof.Rows
set_option Elab.async false
set_option maxRecDepth 100000
set_option maxHeartbeats 8000000
set_option linter.unusedVariables false
namespace Mine
theorem D15_fill (w : World) : (hd.heap_39 w.params = hd.heap_39 w.params ∧ PySem.Challenge.rw_nu0265_01 = PySem.Challenge.rw_nu0265_01) := by
  k_fill
  exact ⟨rfl, rfl⟩
local macro_rules | `(tactic| walk_at "eval ListComp") => `(tactic| refine Stop.to 1 ?_)
local macro_rules | `(tactic| walk_at "pyIter ref") => `(tactic| refine Stop.mk ?_)
local macro_rules | `(tactic| k_updF) => `(tactic| first
  | (refine' UpdF.head ?y8h; (case y8h => ((repeat (refine' all_cons ?_ ?_; ((try dsimp only); omega))); first | exact all_nil | exact all_tail (by assumption))))
  | (refine' UpdF.tail ?y8a ?y8r; (case y8a => ((try dsimp only); omega)); (case y8r => k_updF)))
local macro_rules | `(tactic| walk_at "exec For Name Call cons nil") => `(tactic| refine Stop.to 2 ?_)
local macro_rules | `(tactic| walk_at "call type:range") => `(tactic| refine Stop.to 3 ?_)
local macro_rules | `(tactic| walk_at "call builtin:len") => `(tactic| refine Stop.to 4 ?_)
local macro_rules | `(tactic| walk_at "call ref") => `(tactic| refine Stop.to 5 ?_)
local macro_rules | `(tactic| walk_at "compareOp NotEq ref ref") => `(tactic| refine Stop.to 6 ?_)
local macro_rules | `(tactic| walk_at "compareOp Eq ref ref") => `(tactic| refine Stop.to 7 ?_)
local macro_rules | `(tactic| walk_at "compareOp In ref ref") => `(tactic| refine Stop.to 8 ?_)
local macro_rules | `(tactic| walk_at "compareOp In int ref") => `(tactic| (k_dflt (refine' in_tupAt ?y9F ?y9t ?_; (case y9F => k_asm); (case y9t => assumption))))
local macro_rules | `(tactic| walk_at "call builtin:list.append") => `(tactic| refine Stop.to 9 ?_)
local macro_rules | `(tactic| walk_at "subscriptTail") => `(tactic| refine Stop.mk ?_)
local macro_rules | `(tactic| walk_at "call type:list") => `(tactic| refine Stop.to 10 ?_)
local macro_rules | `(tactic| walk_at "call type:set") => `(tactic| refine Stop.to 11 ?_)
local macro_rules | `(tactic| walk_at "call builtin:sorted") => `(tactic| refine Stop.to 12 ?_)
theorem news_tail {g h : Heap} {L : Addr} {p : Addr × Obj} {l : List (Addr × Obj)} (N : News g L h (p :: l)) : News g L h l := fun q hq => N q (.tail _ hq)
theorem tail_cons {p : Addr × Obj} {l : List (Addr × Obj)} {d : Addr} (h : @Ne Nat p.1 d) (k : TailNe l d) : TailNe (p :: l) d := fun q hq => by
  rcases List.mem_cons.mp hq with rfl | hq
  · exact h
  · exact k q hq
theorem sub_cons {p : Addr × Obj} {l W : List (Addr × Obj)} (h : p ∈ W) (k : ∀ q ∈ l, q ∈ W) : ∀ q ∈ p :: l, q ∈ W := fun q hq => by
  rcases List.mem_cons.mp hq with rfl | hq
  · exact h
  · exact k q hq
theorem parts_one {tl : List (Addr × Obj)} {t : Addr} {p : List Int} (h : ∃ o, (t, o) ∈ tl ∧ TupObj p o) : PartsAre tl [.ref t] [p] := let ⟨o, hm, ho⟩ := h; .cons hm ho .nil
inductive JG (tb sb : Addr) (L : Nat) (rl tl : List (Addr × Obj)) (c : Circ) (ts : List (List Bool)) (sn : List (List Int)) (net : Addr) (i : Nat) (m : Str → Option Value) : List (Addr × Obj) → Prop
  | mk (o1 o2 o3 : Obj) (v1 v2 : Option Value) (rs : List Value) (k1 : Nat) (sv : List Value) (k2 : Nat) (add : List (Addr × Obj)) (d1 : o1.data = .cell v1) (d2 : o2.data = .cell v2) (d3 : o3.data = .cell (some (.ref tb))) (hr : RowsP (add ++ rl) rs (growN c ts sn i).1) (hp : PartsAre tl sv (growN c ts sn i).2)
      (t1 : TailNe add tb) (t2 : TailNe add sb) (t3 : TailNe add (L + 1 + 1 + 1)) (t4 : TailNe add (L + 1 + 1)) (t5 : TailNe add (L + 1)) (e1 : m "net" = some (.ref net)) (e2 : m "seen" = some (.ref sb)) :
      JG tb sb L rl tl c ts sn net i m ((tb, PySem.W.listOf (List.toArray rs) k1) :: (sb, PySem.W.listOf (List.toArray sv) k2) :: (L + 1 + 1 + 1, o1) :: (L + 1 + 1, o2) :: (L + 1, o3) :: add)
section
variable (w : World) (mean : ExcName → Option Value) (mg mb : Str → Option Value) (a : NA) (tl : List (Addr × Obj)) (c : Circ)
theorem grown_ctr (n : Nat) (hs : Small c n) (hz : n ≤ 860) (hkp : c.parts.length = c.kinds.length) (ts : List (List Bool)) (sn : List (List Int)) (R : Nat) (hR8 : R ≤ 8) (ht2 : 2 ≤ ts.length) (htk : ts.length ≤ c.kinds.length)
   (hrow : ∀ i, 1 ≤ i → i < ts.length → (ts.getD i []).length = R) (hsn : sn.length ≤ 900)
   (hok : ∀ k, ts.length + k < c.kinds.length → GateOk c (growN c ts sn k).2 (ts.length + k)) (tb sb : Addr) (hne : @Ne Nat tb sb) (rl : List (Addr × Obj)) :
  Ctr w mean mg mb 181 6 300 [.ref a.net, .ref tb, .ref sb]
    (fun g h => NetRead w g a tl c ∧ (∃ rs n1, h.get? tb = some (PySem.W.listOf (List.toArray rs) n1) ∧ RowsP rl rs ts) ∧ (∃ sv n2, h.get? sb = some (PySem.W.listOf (List.toArray sv) n2) ∧ PartsAre tl sv sn) ∧ g.get? tb = none ∧ g.get? sb = none ∧ ∀ p ∈ rl, g.get? p.1 = some p.2)
    (fun g v _ h' => v = .bool true ∧ ∃ add rs n1 sv n2, h'.get? tb = some (PySem.W.listOf (List.toArray rs) n1) ∧ RowsP (add ++ rl) rs (growN c ts sn (c.kinds.length - ts.length)).1 ∧ h'.get? sb = some (PySem.W.listOf (List.toArray sv) n2) ∧ PartsAre tl sv (growN c ts sn (c.kinds.length - ts.length)).2 ∧
      ∀ p ∈ add, h'.get? p.1 = some p.2 ∧ g.get? p.1 = none ∧ @Ne Nat p.1 tb ∧ @Ne Nat p.1 sb) := by
  rintro dp un gd fr base g s Q E C hd hu ⟨hR, ⟨rs, k1, htb, hrs⟩, ⟨sv, k2, hsb, hsv⟩, ft, fs, hrl⟩ hQ
  obtain ⟨hG, _, hpool⟩ := id hR
  obtain ⟨hinst, ⟨x1, x2, x3, x4, x5, x6, x7, hdict⟩, n1, n2, n3, lo⟩ := id hG
  have X := C.X
  have T := C.T
  have B := C.B
  have hlen := hrs.length
  have hsm := id hs
  unfold Small at hsm
  have lt1 : @LT.lt Nat _ tb s.heap.objs.size := Heap.lt_size htb
  have lt2 : @LT.lt Nat _ sb s.heap.objs.size := Heap.lt_size hsb
  refine wpAny_call ?_
  k_dflt (refine' enterC C ?k6 ?k7 ?k8 ?k9 ?kB ?kD ?_ ?c2 ?c3 ?c4; (case k6 => k_is); (case k7 => k_is); (case k8 => omega); (case k9 => exact BindsTo.of_eq rfl); (case kB => exact rfl); (case kD => decide +kernel); (case c2 => exact rfl); (case c3 => exact rfl); (case c4 => exact rfl))
  intro h₁ tkc cells F N Y l0 K₁
  (try k_lt l0); k_cells Y; (try simp only [List.cons_append, List.nil_append] at N)
  rename_i o1 o2 o3 d1 d2 d3
  have N : News g s.heap.objs.size h₁ ((tb, PySem.W.listOf (List.toArray rs) k1) :: (sb, PySem.W.listOf (List.toArray sv) k2) :: _) := news_two (K₁ _ _ htb) (Nat.ne_of_lt (Heap.lt_size htb)) ft (K₁ _ _ hsb) (Nat.ne_of_lt (Heap.lt_size hsb)) fs N
  (try dsimp only)
  (try k_fold)
  (k_steps; (repeat' ((first | (refine Stop.out (n := 1) ?_; (first | ((k_dflt (refine' comp_open ?y9c ?y9k ?y9n ?_ ?y9s; (case y9c => with_unfolding_all rfl); (case y9k => exact rfl); (case y9n => decide); (case y9s => (intro _; rfl))))))) | (refine Stop.out (n := 2) ?_; (first | (((rename Fr _ _ _ _ => lF'q); (with_unfolding_all refine' For_invTF lF'q ?_ ?ks; (case ks => (intro _; rfl))))))) | (refine Stop.out (n := 3) ?_; (first | (((rename Fr _ _ _ _ => F'q); (rename News _ _ _ _ => N'q); first | (with_unfolding_all refine range2_rows F'q N'q ?_) | (with_unfolding_all refine range1_rows F'q N'q ?_)); clear F'q N'q; intro h9q tk9q t9q u9q v9q R9q F9q N9q K9q))) | (refine Stop.out (n := 4) ?_; (first | (first | (k_dflt (refine' len_v ?y9N ?y9m ?y9z ?_; (case y9N => k_asm); (case y9m => k_mem); (case y9z => omega)); intro t9q tk9q) | (k_dflt (refine' len_tupAt ?y9F ?y9m ?y9z ?_; (case y9F => k_asm); (case y9m => assumption); (case y9z => omega)); intro t9q tk9q) | (k_dflt (refine' seqIn_len ?y9m ?y9z ?_; (case y9m => assumption); (case y9z => (simp; omega))); intro t9q tk9q)))) | (refine Stop.out (n := 5) ?_; (first | (first | ((with_reducible show wpAny _ _ (call (Value.ref 35) _) _ _ _); k_dflt (refine' size_use ?y9B ?y9F ?y9X ?y9T ?y9N ?y9f ?y9k ?y9d ?y9u ?y9r ?y9c ?_; (case y9B => k_asm); (case y9F => k_asm); (case y9X => k_asm); (case y9T => k_asm); (case y9N => k_asm); (case y9f => exact rfl); (case y9k => exact rfl); (case y9d => (dsimp only [Around.deeper, ar]; (refine Nat.lt_of_le_of_lt ?_ (by assumption)); simp)); (case y9u => (dsimp only [Around.deeper, ar]; (refine Nat.lt_of_le_of_lt ?_ (by assumption)); simp)); (case y9r => exact NetRead.keeps (by assumption) (Fr.keep (by k_asm))); (case y9c => omega)); intro t9q h9q tk9q F9q N9q; (try dsimp only at N9q)) | ((with_reducible show wpAny _ _ (call (Value.ref 42) _) _ _ _); k_dflt (refine' kind_and ?y9B ?y9F ?y9X ?y9T ?y9N ?y9f ?y9k ?y9d ?y9u ?y9r ?y9s ?y9z ?y9h ?y9x ?_; (case y9B => k_asm); (case y9F => k_asm); (case y9X => k_asm); (case y9T => k_asm); (case y9N => k_asm); (case y9f => exact rfl); (case y9k => exact rfl); (case y9d => (dsimp only [Around.deeper, ar]; (refine Nat.lt_of_le_of_lt ?_ (by assumption)); simp)); (case y9u => (dsimp only [Around.deeper, ar]; (refine Nat.lt_of_le_of_lt ?_ (by assumption)); simp)); (case y9r => assumption); (case y9s => assumption); (case y9z => omega); (case y9h => first | assumption | exact Has.neg (by assumption)); (case y9x => first | assumption | (rw [ab_neg]; assumption))); intro t9q h9q tk9q F9q N9q; (try dsimp only at N9q)) | ((with_reducible show wpAny _ _ (call (Value.ref 49) _) _ _ _); k_dflt (refine' parts_at ?y9B ?y9F ?y9X ?y9T ?y9N ?y9f ?y9k ?y9d ?y9u ?y9r ?y9s ?y9z ?y9h ?y9x ?_; (case y9B => k_asm); (case y9F => k_asm); (case y9X => k_asm); (case y9T => k_asm); (case y9N => k_asm); (case y9f => exact rfl); (case y9k => exact rfl); (case y9d => (dsimp only [Around.deeper, ar]; (refine Nat.lt_of_le_of_lt ?_ (by assumption)); simp)); (case y9u => (dsimp only [Around.deeper, ar]; (refine Nat.lt_of_le_of_lt ?_ (by assumption)); simp)); (case y9r => assumption); (case y9s => assumption); (case y9z => omega); (case y9h => first | assumption | exact Has.neg (by assumption)); (case y9x => first | assumption | (rw [ab_neg]; assumption))); intro t9q h9q tk9q F9q N9q ht9q ho9q; (try dsimp only at N9q)) | ((with_reducible show wpAny _ _ (call (Value.ref 176) _) _ _ _); k_dflt (refine' truth_use ?y9B ?y9F ?y9X ?y9T ?y9N ?y9f ?y9k ?y9d ?y9u ?y9m ?y9r ?y9p ?y9t ?y9l ?y90 ?y91 ?y9w ?_; (case y9B => k_asm); (case y9F => k_asm); (case y9X => k_asm); (case y9T => k_asm); (case y9N => k_asm); (case y9f => exact rfl); (case y9k => exact rfl); (case y9d => (dsimp only [Around.deeper, ar]; (refine Nat.lt_of_le_of_lt ?_ (by assumption)); simp)); (case y9u => (dsimp only [Around.deeper, ar]; (refine Nat.lt_of_le_of_lt ?_ (by assumption)); simp)); (case y9m => k_mem); (case y9r => assumption); (case y9p => exact pool_rows (by assumption) (by assumption) (by intro pq hpq; repeat (first | exact hpq | apply List.Mem.tail))); (case y9t => omega); (case y9l => omega); (case y90 => omega); (case y91 => omega); (case y9w => omega)); intro h9q tk9q F9q N9q; (try dsimp only at N9q))))) | (refine Stop.out (n := 6) ?_; (first | (first | (k_dflt (refine' ne_tups_same ?y9F ?y9a ?y9b ?y9u ?_; (case y9F => k_asm); (case y9a => assumption); (case y9b => assumption); (case y9u => (dsimp only [Around.deeper, ar]; (refine Nat.lt_of_le_of_lt ?_ (by assumption)); simp)))) | (k_dflt (refine' ne_ints_same ?y9N ?y9a ?y9b ?y9i ?y9j ?y9e ?y9u ?_; (case y9N => k_asm); (case y9a => k_mem); (case y9b => k_mem); (case y9i => first | assumption | exact IntsAre.nil); (case y9j => first | exact IntsAre.nil | assumption); (case y9e => first | assumption | rfl); (case y9u => (dsimp only [Around.deeper, ar]; (refine Nat.lt_of_le_of_lt ?_ (by assumption)); simp))))))) | (refine Stop.out (n := 7) ?_; (first | ((k_dflt (refine' eq_ints_n ?y9N ?y9a ?y9b ?y9i ?y9j ?y9u ?_; (case y9N => k_asm); (case y9a => k_mem); (case y9b => k_mem); (case y9i => first | assumption | exact IntsAre.nil); (case y9j => first | exact IntsAre.nil | assumption); (case y9u => (dsimp only [Around.deeper, ar]; (refine Nat.lt_of_le_of_lt ?_ (by assumption)); simp))))))) | (refine Stop.out (n := 8) ?_; (first | ((k_dflt (refine' in_tups_not ?y9F ?y9N ?y9m ?y9p ?y9o ?y9t ?y9n ?y9u ?_; (case y9F => k_asm); (case y9N => k_asm); (case y9m => k_mem); (case y9p => assumption); (case y9o => assumption); (case y9t => assumption); (case y9n => assumption); (case y9u => (dsimp only [Around.deeper, ar]; (refine Nat.lt_of_le_of_lt ?_ (by assumption)); simp))))))) | (refine Stop.out (n := 9) ?_; (first | ((k_dflt (refine' append_n ?y9F ?y9N ?y9U ?y9z ?_; (case y9F => k_asm); (case y9N => k_asm); (case y9U => k_updF); (case y9z => omega)); intro h9q F9q N9q; (try dsimp only at N9q))))) | (refine Stop.out (n := 10) ?_; (first | ((k_dflt (refine' list_tupAt ?y9F ?y9N ?y9t ?y9z ?_; (case y9F => k_asm); (case y9N => k_asm); (case y9t => assumption); (case y9z => omega)); intro D9q vs9q c9q h9q F9q N9q l9q hi9q; (try k_lt l9q))))) | (refine Stop.out (n := 11) ?_; (first | ((k_dflt (refine' set_tupAt ?y9h ?y9F ?y9N ?y9t ?y9z ?_; (case y9h => exact rfl); (case y9F => k_asm); (case y9N => k_asm); (case y9t => assumption); (case y9z => omega)); intro D9q h9q o9q tk9q F9q N9q l9q hs9q; (try k_lt l9q))))) | (refine Stop.out (n := 12) ?_; (first | ((k_dflt (refine' sorted_set ?y9h ?y9F ?y9N ?y9m ?y9d ?_; (case y9h => exact rfl); (case y9F => k_asm); (case y9N => k_asm); (case y9m => k_mem); (case y9d => assumption)); intro D9q h9q vs9q c9q tk9q F9q N9q l9q hi9q hl9q; (try k_lt l9q)))))); k_steps)))
  refine Stop.out ?_
  refine for_rangeT (n := c.kinds.length - ts.length) (JG tb sb s.heap.objs.size rl tl c ts sn a.net) rfl R9q (small_one (by omega) (by omega) (by omega) (by omega)) (by rw [rangeSize_nat]; omega) F9q N9q ?_ (fun _ _ => rfl) ?_ ?_
  · exact ⟨o1, o2, o3, _, _, rs, k1, sv, k2, [], d1, d2, d3, hrs, hsv, tail_nil, tail_nil, tail_nil, tail_nil, tail_nil, rfl, rfl⟩
  · rintro i t m₁ nx s₁ own hin hoff ⟨o1', o2', o3', v1, v2, rs', k1', sv', k2', add, e1, e2, e3, hrs', hsv', t1, t2, t3, t4, t5, em1, em2⟩ F₁ N₁
    refine opq2 fun PT hPT => ?_
    have F₁ := see (see F₁ "net" (by repeat (first | exact em1 | (rw [if_neg (by decide)])))) "seen" (by repeat (first | exact em2 | (rw [if_neg (by decide)])))
    have hgk : ts.length + i < c.kinds.length := by omega
    have G := hok i hgk
    obtain ⟨p, hp⟩ : ∃ p, p = c.parts.getD (ts.length + i) [] := ⟨_, rfl⟩
    have hgi : (ab ((rs.length : Int) + (i : Int))).toNat = ts.length + i := by unfold ab; split <;> omega
    have hHas : Has c ((rs.length : Int) + (i : Int)) := ⟨by omega, by omega⟩
    have hparts : c.parts[(ab ((rs.length : Int) + (i : Int))).toNat]? = some p := by rw [hgi, hp, List.getD_eq_getElem?_getD, List.getElem?_eq_getElem (by omega)]; rfl
    have hkind : c.kinds[(ab ((rs.length : Int) + (i : Int))).toNat]? = some (Str.ofString "and") := by rw [hgi]; exact G.kind
    have q2 := G.two
    have q4 := G.four
    have qs := G.sorted
    have qp := G.plain
    have qu := G.under
    have qn := G.new
    rw [← hp] at q2 q4 qs qp qu qn
    clear R9q F9q N9q
    (try clear N)
    (try clear F)
    obtain ⟨W9, hW⟩ : ∃ W9, W9 = add ++ own := ⟨_, rfl⟩
    have x1 : TailNe W9 tb := tail_own hW t1 hoff (by simp)
    have x2 : TailNe W9 sb := tail_own hW t2 hoff (by simp)
    have x3 : TailNe W9 (s.heap.objs.size + 1 + 1 + 1) := tail_own hW t3 hoff (by simp)
    have x4 : TailNe W9 (s.heap.objs.size + 1 + 1) := tail_own hW t4 hoff (by simp)
    have x5 : TailNe W9 (s.heap.objs.size + 1) := tail_own hW t5 hoff (by simp)
    have hsl : sv'.length ≤ 2000 := by rw [hsv'.length, growN_length2]; omega
    have hrl1 : rs'.length = ts.length + i := by rw [hrs'.length, growN_length]
    simp only [List.cons_append] at N₁
    rw [← hW] at N₁
    (try dsimp only); (try k_fold)
    (k_steps; (repeat' ((first | (refine Stop.out (n := 1) ?_; (first | ((k_dflt (refine' comp_open ?y9c ?y9k ?y9n ?_ ?y9s; (case y9c => with_unfolding_all rfl); (case y9k => exact rfl); (case y9n => decide); (case y9s => (intro _; rfl))))))) | (refine Stop.out (n := 2) ?_; (first | (((rename Fr _ _ _ _ => lF'q); (with_unfolding_all refine' For_invTF lF'q ?_ ?ks; (case ks => (intro _; rfl))))))) | (refine Stop.out (n := 3) ?_; (first | (((rename Fr _ _ _ _ => F'q); (rename News _ _ _ _ => N'q); first | (with_unfolding_all refine range2_rows F'q N'q ?_) | (with_unfolding_all refine range1_rows F'q N'q ?_)); clear F'q N'q; intro h9q tk9q t9q u9q v9q R9q F9q N9q K9q))) | (refine Stop.out (n := 4) ?_; (first | (first | (k_dflt (refine' len_v ?y9N ?y9m ?y9z ?_; (case y9N => k_asm); (case y9m => k_mem); (case y9z => omega)); intro t9q tk9q) | (k_dflt (refine' len_tupAt ?y9F ?y9m ?y9z ?_; (case y9F => k_asm); (case y9m => assumption); (case y9z => omega)); intro t9q tk9q) | (k_dflt (refine' seqIn_len ?y9m ?y9z ?_; (case y9m => assumption); (case y9z => (simp; omega))); intro t9q tk9q)))) | (refine Stop.out (n := 5) ?_; (first | (first | ((with_reducible show wpAny _ _ (call (Value.ref 35) _) _ _ _); k_dflt (refine' size_use ?y9B ?y9F ?y9X ?y9T ?y9N ?y9f ?y9k ?y9d ?y9u ?y9r ?y9c ?_; (case y9B => k_asm); (case y9F => k_asm); (case y9X => k_asm); (case y9T => k_asm); (case y9N => k_asm); (case y9f => exact rfl); (case y9k => exact rfl); (case y9d => (dsimp only [Around.deeper, ar]; (refine Nat.lt_of_le_of_lt ?_ (by assumption)); simp)); (case y9u => (dsimp only [Around.deeper, ar]; (refine Nat.lt_of_le_of_lt ?_ (by assumption)); simp)); (case y9r => exact NetRead.keeps (by assumption) (Fr.keep (by k_asm))); (case y9c => omega)); intro t9q h9q tk9q F9q N9q; (try dsimp only at N9q)) | ((with_reducible show wpAny _ _ (call (Value.ref 42) _) _ _ _); k_dflt (refine' kind_and ?y9B ?y9F ?y9X ?y9T ?y9N ?y9f ?y9k ?y9d ?y9u ?y9r ?y9s ?y9z ?y9h ?y9x ?_; (case y9B => k_asm); (case y9F => k_asm); (case y9X => k_asm); (case y9T => k_asm); (case y9N => k_asm); (case y9f => exact rfl); (case y9k => exact rfl); (case y9d => (dsimp only [Around.deeper, ar]; (refine Nat.lt_of_le_of_lt ?_ (by assumption)); simp)); (case y9u => (dsimp only [Around.deeper, ar]; (refine Nat.lt_of_le_of_lt ?_ (by assumption)); simp)); (case y9r => assumption); (case y9s => assumption); (case y9z => omega); (case y9h => first | assumption | exact Has.neg (by assumption)); (case y9x => first | assumption | (rw [ab_neg]; assumption))); intro t9q h9q tk9q F9q N9q; (try dsimp only at N9q)) | ((with_reducible show wpAny _ _ (call (Value.ref 49) _) _ _ _); k_dflt (refine' parts_at ?y9B ?y9F ?y9X ?y9T ?y9N ?y9f ?y9k ?y9d ?y9u ?y9r ?y9s ?y9z ?y9h ?y9x ?_; (case y9B => k_asm); (case y9F => k_asm); (case y9X => k_asm); (case y9T => k_asm); (case y9N => k_asm); (case y9f => exact rfl); (case y9k => exact rfl); (case y9d => (dsimp only [Around.deeper, ar]; (refine Nat.lt_of_le_of_lt ?_ (by assumption)); simp)); (case y9u => (dsimp only [Around.deeper, ar]; (refine Nat.lt_of_le_of_lt ?_ (by assumption)); simp)); (case y9r => assumption); (case y9s => assumption); (case y9z => omega); (case y9h => first | assumption | exact Has.neg (by assumption)); (case y9x => first | assumption | (rw [ab_neg]; assumption))); intro t9q h9q tk9q F9q N9q ht9q ho9q; (try dsimp only at N9q)) | ((with_reducible show wpAny _ _ (call (Value.ref 176) _) _ _ _); k_dflt (refine' truth_use ?y9B ?y9F ?y9X ?y9T ?y9N ?y9f ?y9k ?y9d ?y9u ?y9m ?y9r ?y9p ?y9t ?y9l ?y90 ?y91 ?y9w ?_; (case y9B => k_asm); (case y9F => k_asm); (case y9X => k_asm); (case y9T => k_asm); (case y9N => k_asm); (case y9f => exact rfl); (case y9k => exact rfl); (case y9d => (dsimp only [Around.deeper, ar]; (refine Nat.lt_of_le_of_lt ?_ (by assumption)); simp)); (case y9u => (dsimp only [Around.deeper, ar]; (refine Nat.lt_of_le_of_lt ?_ (by assumption)); simp)); (case y9m => k_mem); (case y9r => assumption); (case y9p => exact pool_rows (by assumption) (by assumption) (by intro pq hpq; repeat (first | exact hpq | apply List.Mem.tail))); (case y9t => omega); (case y9l => omega); (case y90 => omega); (case y91 => omega); (case y9w => omega)); intro h9q tk9q F9q N9q; (try dsimp only at N9q))))) | (refine Stop.out (n := 6) ?_; (first | (first | (k_dflt (refine' ne_tups_same ?y9F ?y9a ?y9b ?y9u ?_; (case y9F => k_asm); (case y9a => assumption); (case y9b => assumption); (case y9u => (dsimp only [Around.deeper, ar]; (refine Nat.lt_of_le_of_lt ?_ (by assumption)); simp)))) | (k_dflt (refine' ne_ints_same ?y9N ?y9a ?y9b ?y9i ?y9j ?y9e ?y9u ?_; (case y9N => k_asm); (case y9a => k_mem); (case y9b => k_mem); (case y9i => first | assumption | exact IntsAre.nil); (case y9j => first | exact IntsAre.nil | assumption); (case y9e => first | assumption | rfl); (case y9u => (dsimp only [Around.deeper, ar]; (refine Nat.lt_of_le_of_lt ?_ (by assumption)); simp))))))) | (refine Stop.out (n := 7) ?_; (first | ((k_dflt (refine' eq_ints_n ?y9N ?y9a ?y9b ?y9i ?y9j ?y9u ?_; (case y9N => k_asm); (case y9a => k_mem); (case y9b => k_mem); (case y9i => first | assumption | exact IntsAre.nil); (case y9j => first | exact IntsAre.nil | assumption); (case y9u => (dsimp only [Around.deeper, ar]; (refine Nat.lt_of_le_of_lt ?_ (by assumption)); simp))))))) | (refine Stop.out (n := 8) ?_; (first | ((k_dflt (refine' in_tups_not ?y9F ?y9N ?y9m ?y9p ?y9o ?y9t ?y9n ?y9u ?_; (case y9F => k_asm); (case y9N => k_asm); (case y9m => k_mem); (case y9p => assumption); (case y9o => assumption); (case y9t => assumption); (case y9n => assumption); (case y9u => (dsimp only [Around.deeper, ar]; (refine Nat.lt_of_le_of_lt ?_ (by assumption)); simp))))))) | (refine Stop.out (n := 9) ?_; (first | ((k_dflt (refine' append_n ?y9F ?y9N ?y9U ?y9z ?_; (case y9F => k_asm); (case y9N => k_asm); (case y9U => k_updF); (case y9z => omega)); intro h9q F9q N9q; (try dsimp only at N9q))))) | (refine Stop.out (n := 10) ?_; (first | ((k_dflt (refine' list_tupAt ?y9F ?y9N ?y9t ?y9z ?_; (case y9F => k_asm); (case y9N => k_asm); (case y9t => assumption); (case y9z => omega)); intro D9q vs9q c9q h9q F9q N9q l9q hi9q; (try k_lt l9q))))) | (refine Stop.out (n := 11) ?_; (first | ((k_dflt (refine' set_tupAt ?y9h ?y9F ?y9N ?y9t ?y9z ?_; (case y9h => exact rfl); (case y9F => k_asm); (case y9N => k_asm); (case y9t => assumption); (case y9z => omega)); intro D9q h9q o9q tk9q F9q N9q l9q hs9q; (try k_lt l9q))))) | (refine Stop.out (n := 12) ?_; (first | ((k_dflt (refine' sorted_set ?y9h ?y9F ?y9N ?y9m ?y9d ?_; (case y9h => exact rfl); (case y9F => k_asm); (case y9N => k_asm); (case y9m => k_mem); (case y9d => assumption)); intro D9q h9q vs9q c9q tk9q F9q N9q l9q hi9q hl9q; (try k_lt l9q)))))); k_steps)))
    refine Stop.out ?_
    refine comp_filter (fun x => p.any fun y => y == 0 - x) (by assumption) (by omega) rfl (by decide) rfl rfl (by assumption) (by assumption) ?_ ?_
    · rintro k tk I oI C' oC D m₂ h tk' E' ys hkp hoC hx F9 N9 off ne
      refine opqT fun PC PC0 hPC hPC0 => ?_
      (try dsimp only); (try k_fold)
      (k_steps; (repeat' ((first | (refine Stop.out (n := 1) ?_; (first | ((k_dflt (refine' comp_open ?y9c ?y9k ?y9n ?_ ?y9s; (case y9c => with_unfolding_all rfl); (case y9k => exact rfl); (case y9n => decide); (case y9s => (intro _; rfl))))))) | (refine Stop.out (n := 2) ?_; (first | (((rename Fr _ _ _ _ => lF'q); (with_unfolding_all refine' For_invTF lF'q ?_ ?ks; (case ks => (intro _; rfl))))))) | (refine Stop.out (n := 3) ?_; (first | (((rename Fr _ _ _ _ => F'q); (rename News _ _ _ _ => N'q); first | (with_unfolding_all refine range2_rows F'q N'q ?_) | (with_unfolding_all refine range1_rows F'q N'q ?_)); clear F'q N'q; intro h9q tk9q t9q u9q v9q R9q F9q N9q K9q))) | (refine Stop.out (n := 4) ?_; (first | (first | (k_dflt (refine' len_v ?y9N ?y9m ?y9z ?_; (case y9N => k_asm); (case y9m => k_mem); (case y9z => omega)); intro t9q tk9q) | (k_dflt (refine' len_tupAt ?y9F ?y9m ?y9z ?_; (case y9F => k_asm); (case y9m => assumption); (case y9z => omega)); intro t9q tk9q) | (k_dflt (refine' seqIn_len ?y9m ?y9z ?_; (case y9m => assumption); (case y9z => (simp; omega))); intro t9q tk9q)))) | (refine Stop.out (n := 5) ?_; (first | (first | ((with_reducible show wpAny _ _ (call (Value.ref 35) _) _ _ _); k_dflt (refine' size_use ?y9B ?y9F ?y9X ?y9T ?y9N ?y9f ?y9k ?y9d ?y9u ?y9r ?y9c ?_; (case y9B => k_asm); (case y9F => k_asm); (case y9X => k_asm); (case y9T => k_asm); (case y9N => k_asm); (case y9f => exact rfl); (case y9k => exact rfl); (case y9d => (dsimp only [Around.deeper, ar]; (refine Nat.lt_of_le_of_lt ?_ (by assumption)); simp)); (case y9u => (dsimp only [Around.deeper, ar]; (refine Nat.lt_of_le_of_lt ?_ (by assumption)); simp)); (case y9r => exact NetRead.keeps (by assumption) (Fr.keep (by k_asm))); (case y9c => omega)); intro t9q h9q tk9q F9q N9q; (try dsimp only at N9q)) | ((with_reducible show wpAny _ _ (call (Value.ref 42) _) _ _ _); k_dflt (refine' kind_and ?y9B ?y9F ?y9X ?y9T ?y9N ?y9f ?y9k ?y9d ?y9u ?y9r ?y9s ?y9z ?y9h ?y9x ?_; (case y9B => k_asm); (case y9F => k_asm); (case y9X => k_asm); (case y9T => k_asm); (case y9N => k_asm); (case y9f => exact rfl); (case y9k => exact rfl); (case y9d => (dsimp only [Around.deeper, ar]; (refine Nat.lt_of_le_of_lt ?_ (by assumption)); simp)); (case y9u => (dsimp only [Around.deeper, ar]; (refine Nat.lt_of_le_of_lt ?_ (by assumption)); simp)); (case y9r => assumption); (case y9s => assumption); (case y9z => omega); (case y9h => first | assumption | exact Has.neg (by assumption)); (case y9x => first | assumption | (rw [ab_neg]; assumption))); intro t9q h9q tk9q F9q N9q; (try dsimp only at N9q)) | ((with_reducible show wpAny _ _ (call (Value.ref 49) _) _ _ _); k_dflt (refine' parts_at ?y9B ?y9F ?y9X ?y9T ?y9N ?y9f ?y9k ?y9d ?y9u ?y9r ?y9s ?y9z ?y9h ?y9x ?_; (case y9B => k_asm); (case y9F => k_asm); (case y9X => k_asm); (case y9T => k_asm); (case y9N => k_asm); (case y9f => exact rfl); (case y9k => exact rfl); (case y9d => (dsimp only [Around.deeper, ar]; (refine Nat.lt_of_le_of_lt ?_ (by assumption)); simp)); (case y9u => (dsimp only [Around.deeper, ar]; (refine Nat.lt_of_le_of_lt ?_ (by assumption)); simp)); (case y9r => assumption); (case y9s => assumption); (case y9z => omega); (case y9h => first | assumption | exact Has.neg (by assumption)); (case y9x => first | assumption | (rw [ab_neg]; assumption))); intro t9q h9q tk9q F9q N9q ht9q ho9q; (try dsimp only at N9q)) | ((with_reducible show wpAny _ _ (call (Value.ref 176) _) _ _ _); k_dflt (refine' truth_use ?y9B ?y9F ?y9X ?y9T ?y9N ?y9f ?y9k ?y9d ?y9u ?y9m ?y9r ?y9p ?y9t ?y9l ?y90 ?y91 ?y9w ?_; (case y9B => k_asm); (case y9F => k_asm); (case y9X => k_asm); (case y9T => k_asm); (case y9N => k_asm); (case y9f => exact rfl); (case y9k => exact rfl); (case y9d => (dsimp only [Around.deeper, ar]; (refine Nat.lt_of_le_of_lt ?_ (by assumption)); simp)); (case y9u => (dsimp only [Around.deeper, ar]; (refine Nat.lt_of_le_of_lt ?_ (by assumption)); simp)); (case y9m => k_mem); (case y9r => assumption); (case y9p => exact pool_rows (by assumption) (by assumption) (by intro pq hpq; repeat (first | exact hpq | apply List.Mem.tail))); (case y9t => omega); (case y9l => omega); (case y90 => omega); (case y91 => omega); (case y9w => omega)); intro h9q tk9q F9q N9q; (try dsimp only at N9q))))) | (refine Stop.out (n := 6) ?_; (first | (first | (k_dflt (refine' ne_tups_same ?y9F ?y9a ?y9b ?y9u ?_; (case y9F => k_asm); (case y9a => assumption); (case y9b => assumption); (case y9u => (dsimp only [Around.deeper, ar]; (refine Nat.lt_of_le_of_lt ?_ (by assumption)); simp)))) | (k_dflt (refine' ne_ints_same ?y9N ?y9a ?y9b ?y9i ?y9j ?y9e ?y9u ?_; (case y9N => k_asm); (case y9a => k_mem); (case y9b => k_mem); (case y9i => first | assumption | exact IntsAre.nil); (case y9j => first | exact IntsAre.nil | assumption); (case y9e => first | assumption | rfl); (case y9u => (dsimp only [Around.deeper, ar]; (refine Nat.lt_of_le_of_lt ?_ (by assumption)); simp))))))) | (refine Stop.out (n := 7) ?_; (first | ((k_dflt (refine' eq_ints_n ?y9N ?y9a ?y9b ?y9i ?y9j ?y9u ?_; (case y9N => k_asm); (case y9a => k_mem); (case y9b => k_mem); (case y9i => first | assumption | exact IntsAre.nil); (case y9j => first | exact IntsAre.nil | assumption); (case y9u => (dsimp only [Around.deeper, ar]; (refine Nat.lt_of_le_of_lt ?_ (by assumption)); simp))))))) | (refine Stop.out (n := 8) ?_; (first | ((k_dflt (refine' in_tups_not ?y9F ?y9N ?y9m ?y9p ?y9o ?y9t ?y9n ?y9u ?_; (case y9F => k_asm); (case y9N => k_asm); (case y9m => k_mem); (case y9p => assumption); (case y9o => assumption); (case y9t => assumption); (case y9n => assumption); (case y9u => (dsimp only [Around.deeper, ar]; (refine Nat.lt_of_le_of_lt ?_ (by assumption)); simp))))))) | (refine Stop.out (n := 9) ?_; (first | ((k_dflt (refine' append_n ?y9F ?y9N ?y9U ?y9z ?_; (case y9F => k_asm); (case y9N => k_asm); (case y9U => k_updF); (case y9z => omega)); intro h9q F9q N9q; (try dsimp only at N9q))))) | (refine Stop.out (n := 10) ?_; (first | ((k_dflt (refine' list_tupAt ?y9F ?y9N ?y9t ?y9z ?_; (case y9F => k_asm); (case y9N => k_asm); (case y9t => assumption); (case y9z => omega)); intro D9q vs9q c9q h9q F9q N9q l9q hi9q; (try k_lt l9q))))) | (refine Stop.out (n := 11) ?_; (first | ((k_dflt (refine' set_tupAt ?y9h ?y9F ?y9N ?y9t ?y9z ?_; (case y9h => exact rfl); (case y9F => k_asm); (case y9N => k_asm); (case y9t => assumption); (case y9z => omega)); intro D9q h9q o9q tk9q F9q N9q l9q hs9q; (try k_lt l9q))))) | (refine Stop.out (n := 12) ?_; (first | ((k_dflt (refine' sorted_set ?y9h ?y9F ?y9N ?y9m ?y9d ?_; (case y9h => exact rfl); (case y9F => k_asm); (case y9N => k_asm); (case y9m => k_mem); (case y9d => assumption)); intro D9q h9q vs9q c9q tk9q F9q N9q l9q hi9q hl9q; (try k_lt l9q)))))); k_steps)))
      · exact hPC _ _ (TEnd.intro F9 N9 off ⟨rfl, by assumption, _, rfl⟩)
      · exact hPC0 _ (TEnd.intro F9 N9 off ⟨rfl, by assumption⟩)
    rintro D1 h1 tk1 ys1 hys1 F1 N1 off1
    have off1' := off1
    simp only [LCg.Off1] at off1'
    (try dsimp only); (try k_fold)
    (k_steps; (repeat' ((first | (refine Stop.out (n := 1) ?_; (first | ((k_dflt (refine' comp_open ?y9c ?y9k ?y9n ?_ ?y9s; (case y9c => with_unfolding_all rfl); (case y9k => exact rfl); (case y9n => decide); (case y9s => (intro _; rfl))))))) | (refine Stop.out (n := 2) ?_; (first | (((rename Fr _ _ _ _ => lF'q); (with_unfolding_all refine' For_invTF lF'q ?_ ?ks; (case ks => (intro _; rfl))))))) | (refine Stop.out (n := 3) ?_; (first | (((rename Fr _ _ _ _ => F'q); (rename News _ _ _ _ => N'q); first | (with_unfolding_all refine range2_rows F'q N'q ?_) | (with_unfolding_all refine range1_rows F'q N'q ?_)); clear F'q N'q; intro h9q tk9q t9q u9q v9q R9q F9q N9q K9q))) | (refine Stop.out (n := 4) ?_; (first | (first | (k_dflt (refine' len_v ?y9N ?y9m ?y9z ?_; (case y9N => k_asm); (case y9m => k_mem); (case y9z => omega)); intro t9q tk9q) | (k_dflt (refine' len_tupAt ?y9F ?y9m ?y9z ?_; (case y9F => k_asm); (case y9m => assumption); (case y9z => omega)); intro t9q tk9q) | (k_dflt (refine' seqIn_len ?y9m ?y9z ?_; (case y9m => assumption); (case y9z => (simp; omega))); intro t9q tk9q)))) | (refine Stop.out (n := 5) ?_; (first | (first | ((with_reducible show wpAny _ _ (call (Value.ref 35) _) _ _ _); k_dflt (refine' size_use ?y9B ?y9F ?y9X ?y9T ?y9N ?y9f ?y9k ?y9d ?y9u ?y9r ?y9c ?_; (case y9B => k_asm); (case y9F => k_asm); (case y9X => k_asm); (case y9T => k_asm); (case y9N => k_asm); (case y9f => exact rfl); (case y9k => exact rfl); (case y9d => (dsimp only [Around.deeper, ar]; (refine Nat.lt_of_le_of_lt ?_ (by assumption)); simp)); (case y9u => (dsimp only [Around.deeper, ar]; (refine Nat.lt_of_le_of_lt ?_ (by assumption)); simp)); (case y9r => exact NetRead.keeps (by assumption) (Fr.keep (by k_asm))); (case y9c => omega)); intro t9q h9q tk9q F9q N9q; (try dsimp only at N9q)) | ((with_reducible show wpAny _ _ (call (Value.ref 42) _) _ _ _); k_dflt (refine' kind_and ?y9B ?y9F ?y9X ?y9T ?y9N ?y9f ?y9k ?y9d ?y9u ?y9r ?y9s ?y9z ?y9h ?y9x ?_; (case y9B => k_asm); (case y9F => k_asm); (case y9X => k_asm); (case y9T => k_asm); (case y9N => k_asm); (case y9f => exact rfl); (case y9k => exact rfl); (case y9d => (dsimp only [Around.deeper, ar]; (refine Nat.lt_of_le_of_lt ?_ (by assumption)); simp)); (case y9u => (dsimp only [Around.deeper, ar]; (refine Nat.lt_of_le_of_lt ?_ (by assumption)); simp)); (case y9r => assumption); (case y9s => assumption); (case y9z => omega); (case y9h => first | assumption | exact Has.neg (by assumption)); (case y9x => first | assumption | (rw [ab_neg]; assumption))); intro t9q h9q tk9q F9q N9q; (try dsimp only at N9q)) | ((with_reducible show wpAny _ _ (call (Value.ref 49) _) _ _ _); k_dflt (refine' parts_at ?y9B ?y9F ?y9X ?y9T ?y9N ?y9f ?y9k ?y9d ?y9u ?y9r ?y9s ?y9z ?y9h ?y9x ?_; (case y9B => k_asm); (case y9F => k_asm); (case y9X => k_asm); (case y9T => k_asm); (case y9N => k_asm); (case y9f => exact rfl); (case y9k => exact rfl); (case y9d => (dsimp only [Around.deeper, ar]; (refine Nat.lt_of_le_of_lt ?_ (by assumption)); simp)); (case y9u => (dsimp only [Around.deeper, ar]; (refine Nat.lt_of_le_of_lt ?_ (by assumption)); simp)); (case y9r => assumption); (case y9s => assumption); (case y9z => omega); (case y9h => first | assumption | exact Has.neg (by assumption)); (case y9x => first | assumption | (rw [ab_neg]; assumption))); intro t9q h9q tk9q F9q N9q ht9q ho9q; (try dsimp only at N9q)) | ((with_reducible show wpAny _ _ (call (Value.ref 176) _) _ _ _); k_dflt (refine' truth_use ?y9B ?y9F ?y9X ?y9T ?y9N ?y9f ?y9k ?y9d ?y9u ?y9m ?y9r ?y9p ?y9t ?y9l ?y90 ?y91 ?y9w ?_; (case y9B => k_asm); (case y9F => k_asm); (case y9X => k_asm); (case y9T => k_asm); (case y9N => k_asm); (case y9f => exact rfl); (case y9k => exact rfl); (case y9d => (dsimp only [Around.deeper, ar]; (refine Nat.lt_of_le_of_lt ?_ (by assumption)); simp)); (case y9u => (dsimp only [Around.deeper, ar]; (refine Nat.lt_of_le_of_lt ?_ (by assumption)); simp)); (case y9m => k_mem); (case y9r => assumption); (case y9p => exact pool_rows (by assumption) (by assumption) (by intro pq hpq; repeat (first | exact hpq | apply List.Mem.tail))); (case y9t => omega); (case y9l => omega); (case y90 => omega); (case y91 => omega); (case y9w => omega)); intro h9q tk9q F9q N9q; (try dsimp only at N9q))))) | (refine Stop.out (n := 6) ?_; (first | (first | (k_dflt (refine' ne_tups_same ?y9F ?y9a ?y9b ?y9u ?_; (case y9F => k_asm); (case y9a => assumption); (case y9b => assumption); (case y9u => (dsimp only [Around.deeper, ar]; (refine Nat.lt_of_le_of_lt ?_ (by assumption)); simp)))) | (k_dflt (refine' ne_ints_same ?y9N ?y9a ?y9b ?y9i ?y9j ?y9e ?y9u ?_; (case y9N => k_asm); (case y9a => k_mem); (case y9b => k_mem); (case y9i => first | assumption | exact IntsAre.nil); (case y9j => first | exact IntsAre.nil | assumption); (case y9e => first | assumption | rfl); (case y9u => (dsimp only [Around.deeper, ar]; (refine Nat.lt_of_le_of_lt ?_ (by assumption)); simp))))))) | (refine Stop.out (n := 7) ?_; (first | ((k_dflt (refine' eq_ints_n ?y9N ?y9a ?y9b ?y9i ?y9j ?y9u ?_; (case y9N => k_asm); (case y9a => k_mem); (case y9b => k_mem); (case y9i => first | assumption | exact IntsAre.nil); (case y9j => first | exact IntsAre.nil | assumption); (case y9u => (dsimp only [Around.deeper, ar]; (refine Nat.lt_of_le_of_lt ?_ (by assumption)); simp))))))) | (refine Stop.out (n := 8) ?_; (first | ((k_dflt (refine' in_tups_not ?y9F ?y9N ?y9m ?y9p ?y9o ?y9t ?y9n ?y9u ?_; (case y9F => k_asm); (case y9N => k_asm); (case y9m => k_mem); (case y9p => assumption); (case y9o => assumption); (case y9t => assumption); (case y9n => assumption); (case y9u => (dsimp only [Around.deeper, ar]; (refine Nat.lt_of_le_of_lt ?_ (by assumption)); simp))))))) | (refine Stop.out (n := 9) ?_; (first | ((k_dflt (refine' append_n ?y9F ?y9N ?y9U ?y9z ?_; (case y9F => k_asm); (case y9N => k_asm); (case y9U => k_updF); (case y9z => omega)); intro h9q F9q N9q; (try dsimp only at N9q))))) | (refine Stop.out (n := 10) ?_; (first | ((k_dflt (refine' list_tupAt ?y9F ?y9N ?y9t ?y9z ?_; (case y9F => k_asm); (case y9N => k_asm); (case y9t => assumption); (case y9z => omega)); intro D9q vs9q c9q h9q F9q N9q l9q hi9q; (try k_lt l9q))))) | (refine Stop.out (n := 11) ?_; (first | ((k_dflt (refine' set_tupAt ?y9h ?y9F ?y9N ?y9t ?y9z ?_; (case y9h => exact rfl); (case y9F => k_asm); (case y9N => k_asm); (case y9t => assumption); (case y9z => omega)); intro D9q h9q o9q tk9q F9q N9q l9q hs9q; (try k_lt l9q))))) | (refine Stop.out (n := 12) ?_; (first | ((k_dflt (refine' sorted_set ?y9h ?y9F ?y9N ?y9m ?y9d ?_; (case y9h => exact rfl); (case y9F => k_asm); (case y9N => k_asm); (case y9m => k_mem); (case y9d => assumption)); intro D9q h9q vs9q c9q tk9q F9q N9q l9q hi9q hl9q; (try k_lt l9q)))))); k_steps)))
    refine Stop.out ?_
    have hq2 : ∀ x ∈ p, (!(decide (1 < ab x) && decide (ab x < (rs.length : Int) + (i : Int)))) = false := fun x hx => by
      have := qu x hx
      have e : (rs.length : Int) + (i : Int) = ((ts.length + i : Nat) : Int) := by omega
      simp [this.1, e]; omega
    have hf2 : p.filter (fun x => !(decide (1 < ab x) && decide (ab x < (rs.length : Int) + (i : Int)))) = [] := List.filter_eq_nil_iff.mpr fun x hx => by rw [hq2 x hx]; exact Bool.noConfusion
    refine comp_filter (fun x => !(decide (1 < ab x) && decide (ab x < (rs.length : Int) + (i : Int)))) (by assumption) (by omega) rfl (by decide) rfl rfl (by assumption) (by assumption) ?_ ?_
    · rintro k tk I oI C' oC D m₂ h tk' E' ys hkp hoC hx F9 N9 off ne
      refine opqT fun PC PC0 hPC hPC0 => ?_
      have hk1 := qu k hkp
      unfold ab at hk1
      (try dsimp only); (try k_fold)
      (k_steps; (repeat' ((first | (refine Stop.out (n := 1) ?_; (first | ((k_dflt (refine' comp_open ?y9c ?y9k ?y9n ?_ ?y9s; (case y9c => with_unfolding_all rfl); (case y9k => exact rfl); (case y9n => decide); (case y9s => (intro _; rfl))))))) | (refine Stop.out (n := 2) ?_; (first | (((rename Fr _ _ _ _ => lF'q); (with_unfolding_all refine' For_invTF lF'q ?_ ?ks; (case ks => (intro _; rfl))))))) | (refine Stop.out (n := 3) ?_; (first | (((rename Fr _ _ _ _ => F'q); (rename News _ _ _ _ => N'q); first | (with_unfolding_all refine range2_rows F'q N'q ?_) | (with_unfolding_all refine range1_rows F'q N'q ?_)); clear F'q N'q; intro h9q tk9q t9q u9q v9q R9q F9q N9q K9q))) | (refine Stop.out (n := 4) ?_; (first | (first | (k_dflt (refine' len_v ?y9N ?y9m ?y9z ?_; (case y9N => k_asm); (case y9m => k_mem); (case y9z => omega)); intro t9q tk9q) | (k_dflt (refine' len_tupAt ?y9F ?y9m ?y9z ?_; (case y9F => k_asm); (case y9m => assumption); (case y9z => omega)); intro t9q tk9q) | (k_dflt (refine' seqIn_len ?y9m ?y9z ?_; (case y9m => assumption); (case y9z => (simp; omega))); intro t9q tk9q)))) | (refine Stop.out (n := 5) ?_; (first | (first | ((with_reducible show wpAny _ _ (call (Value.ref 35) _) _ _ _); k_dflt (refine' size_use ?y9B ?y9F ?y9X ?y9T ?y9N ?y9f ?y9k ?y9d ?y9u ?y9r ?y9c ?_; (case y9B => k_asm); (case y9F => k_asm); (case y9X => k_asm); (case y9T => k_asm); (case y9N => k_asm); (case y9f => exact rfl); (case y9k => exact rfl); (case y9d => (dsimp only [Around.deeper, ar]; (refine Nat.lt_of_le_of_lt ?_ (by assumption)); simp)); (case y9u => (dsimp only [Around.deeper, ar]; (refine Nat.lt_of_le_of_lt ?_ (by assumption)); simp)); (case y9r => exact NetRead.keeps (by assumption) (Fr.keep (by k_asm))); (case y9c => omega)); intro t9q h9q tk9q F9q N9q; (try dsimp only at N9q)) | ((with_reducible show wpAny _ _ (call (Value.ref 42) _) _ _ _); k_dflt (refine' kind_and ?y9B ?y9F ?y9X ?y9T ?y9N ?y9f ?y9k ?y9d ?y9u ?y9r ?y9s ?y9z ?y9h ?y9x ?_; (case y9B => k_asm); (case y9F => k_asm); (case y9X => k_asm); (case y9T => k_asm); (case y9N => k_asm); (case y9f => exact rfl); (case y9k => exact rfl); (case y9d => (dsimp only [Around.deeper, ar]; (refine Nat.lt_of_le_of_lt ?_ (by assumption)); simp)); (case y9u => (dsimp only [Around.deeper, ar]; (refine Nat.lt_of_le_of_lt ?_ (by assumption)); simp)); (case y9r => assumption); (case y9s => assumption); (case y9z => omega); (case y9h => first | assumption | exact Has.neg (by assumption)); (case y9x => first | assumption | (rw [ab_neg]; assumption))); intro t9q h9q tk9q F9q N9q; (try dsimp only at N9q)) | ((with_reducible show wpAny _ _ (call (Value.ref 49) _) _ _ _); k_dflt (refine' parts_at ?y9B ?y9F ?y9X ?y9T ?y9N ?y9f ?y9k ?y9d ?y9u ?y9r ?y9s ?y9z ?y9h ?y9x ?_; (case y9B => k_asm); (case y9F => k_asm); (case y9X => k_asm); (case y9T => k_asm); (case y9N => k_asm); (case y9f => exact rfl); (case y9k => exact rfl); (case y9d => (dsimp only [Around.deeper, ar]; (refine Nat.lt_of_le_of_lt ?_ (by assumption)); simp)); (case y9u => (dsimp only [Around.deeper, ar]; (refine Nat.lt_of_le_of_lt ?_ (by assumption)); simp)); (case y9r => assumption); (case y9s => assumption); (case y9z => omega); (case y9h => first | assumption | exact Has.neg (by assumption)); (case y9x => first | assumption | (rw [ab_neg]; assumption))); intro t9q h9q tk9q F9q N9q ht9q ho9q; (try dsimp only at N9q)) | ((with_reducible show wpAny _ _ (call (Value.ref 176) _) _ _ _); k_dflt (refine' truth_use ?y9B ?y9F ?y9X ?y9T ?y9N ?y9f ?y9k ?y9d ?y9u ?y9m ?y9r ?y9p ?y9t ?y9l ?y90 ?y91 ?y9w ?_; (case y9B => k_asm); (case y9F => k_asm); (case y9X => k_asm); (case y9T => k_asm); (case y9N => k_asm); (case y9f => exact rfl); (case y9k => exact rfl); (case y9d => (dsimp only [Around.deeper, ar]; (refine Nat.lt_of_le_of_lt ?_ (by assumption)); simp)); (case y9u => (dsimp only [Around.deeper, ar]; (refine Nat.lt_of_le_of_lt ?_ (by assumption)); simp)); (case y9m => k_mem); (case y9r => assumption); (case y9p => exact pool_rows (by assumption) (by assumption) (by intro pq hpq; repeat (first | exact hpq | apply List.Mem.tail))); (case y9t => omega); (case y9l => omega); (case y90 => omega); (case y91 => omega); (case y9w => omega)); intro h9q tk9q F9q N9q; (try dsimp only at N9q))))) | (refine Stop.out (n := 6) ?_; (first | (first | (k_dflt (refine' ne_tups_same ?y9F ?y9a ?y9b ?y9u ?_; (case y9F => k_asm); (case y9a => assumption); (case y9b => assumption); (case y9u => (dsimp only [Around.deeper, ar]; (refine Nat.lt_of_le_of_lt ?_ (by assumption)); simp)))) | (k_dflt (refine' ne_ints_same ?y9N ?y9a ?y9b ?y9i ?y9j ?y9e ?y9u ?_; (case y9N => k_asm); (case y9a => k_mem); (case y9b => k_mem); (case y9i => first | assumption | exact IntsAre.nil); (case y9j => first | exact IntsAre.nil | assumption); (case y9e => first | assumption | rfl); (case y9u => (dsimp only [Around.deeper, ar]; (refine Nat.lt_of_le_of_lt ?_ (by assumption)); simp))))))) | (refine Stop.out (n := 7) ?_; (first | ((k_dflt (refine' eq_ints_n ?y9N ?y9a ?y9b ?y9i ?y9j ?y9u ?_; (case y9N => k_asm); (case y9a => k_mem); (case y9b => k_mem); (case y9i => first | assumption | exact IntsAre.nil); (case y9j => first | exact IntsAre.nil | assumption); (case y9u => (dsimp only [Around.deeper, ar]; (refine Nat.lt_of_le_of_lt ?_ (by assumption)); simp))))))) | (refine Stop.out (n := 8) ?_; (first | ((k_dflt (refine' in_tups_not ?y9F ?y9N ?y9m ?y9p ?y9o ?y9t ?y9n ?y9u ?_; (case y9F => k_asm); (case y9N => k_asm); (case y9m => k_mem); (case y9p => assumption); (case y9o => assumption); (case y9t => assumption); (case y9n => assumption); (case y9u => (dsimp only [Around.deeper, ar]; (refine Nat.lt_of_le_of_lt ?_ (by assumption)); simp))))))) | (refine Stop.out (n := 9) ?_; (first | ((k_dflt (refine' append_n ?y9F ?y9N ?y9U ?y9z ?_; (case y9F => k_asm); (case y9N => k_asm); (case y9U => k_updF); (case y9z => omega)); intro h9q F9q N9q; (try dsimp only at N9q))))) | (refine Stop.out (n := 10) ?_; (first | ((k_dflt (refine' list_tupAt ?y9F ?y9N ?y9t ?y9z ?_; (case y9F => k_asm); (case y9N => k_asm); (case y9t => assumption); (case y9z => omega)); intro D9q vs9q c9q h9q F9q N9q l9q hi9q; (try k_lt l9q))))) | (refine Stop.out (n := 11) ?_; (first | ((k_dflt (refine' set_tupAt ?y9h ?y9F ?y9N ?y9t ?y9z ?_; (case y9h => exact rfl); (case y9F => k_asm); (case y9N => k_asm); (case y9t => assumption); (case y9z => omega)); intro D9q h9q o9q tk9q F9q N9q l9q hs9q; (try k_lt l9q))))) | (refine Stop.out (n := 12) ?_; (first | ((k_dflt (refine' sorted_set ?y9h ?y9F ?y9N ?y9m ?y9d ?_; (case y9h => exact rfl); (case y9F => k_asm); (case y9N => k_asm); (case y9m => k_mem); (case y9d => assumption)); intro D9q h9q vs9q c9q tk9q F9q N9q l9q hi9q hl9q; (try k_lt l9q)))))); k_steps)))
      all_goals first | exact hPC0 _ (TEnd.intro F9 N9 off ⟨rfl, hq2 k hkp⟩) | (exfalso; split at hk1 <;> omega)
    rintro D2 h2 tk2 ys2 hys2 F2 N2 off2
    have off2' := off2
    simp only [LCg.Off1] at off2'
    (try dsimp only); (try k_fold)
    (k_steps; (repeat' ((first | (refine Stop.out (n := 1) ?_; (first | ((k_dflt (refine' comp_open ?y9c ?y9k ?y9n ?_ ?y9s; (case y9c => with_unfolding_all rfl); (case y9k => exact rfl); (case y9n => decide); (case y9s => (intro _; rfl))))))) | (refine Stop.out (n := 2) ?_; (first | (((rename Fr _ _ _ _ => lF'q); (with_unfolding_all refine' For_invTF lF'q ?_ ?ks; (case ks => (intro _; rfl))))))) | (refine Stop.out (n := 3) ?_; (first | (((rename Fr _ _ _ _ => F'q); (rename News _ _ _ _ => N'q); first | (with_unfolding_all refine range2_rows F'q N'q ?_) | (with_unfolding_all refine range1_rows F'q N'q ?_)); clear F'q N'q; intro h9q tk9q t9q u9q v9q R9q F9q N9q K9q))) | (refine Stop.out (n := 4) ?_; (first | (first | (k_dflt (refine' len_v ?y9N ?y9m ?y9z ?_; (case y9N => k_asm); (case y9m => k_mem); (case y9z => omega)); intro t9q tk9q) | (k_dflt (refine' len_tupAt ?y9F ?y9m ?y9z ?_; (case y9F => k_asm); (case y9m => assumption); (case y9z => omega)); intro t9q tk9q) | (k_dflt (refine' seqIn_len ?y9m ?y9z ?_; (case y9m => assumption); (case y9z => (simp; omega))); intro t9q tk9q)))) | (refine Stop.out (n := 5) ?_; (first | (first | ((with_reducible show wpAny _ _ (call (Value.ref 35) _) _ _ _); k_dflt (refine' size_use ?y9B ?y9F ?y9X ?y9T ?y9N ?y9f ?y9k ?y9d ?y9u ?y9r ?y9c ?_; (case y9B => k_asm); (case y9F => k_asm); (case y9X => k_asm); (case y9T => k_asm); (case y9N => k_asm); (case y9f => exact rfl); (case y9k => exact rfl); (case y9d => (dsimp only [Around.deeper, ar]; (refine Nat.lt_of_le_of_lt ?_ (by assumption)); simp)); (case y9u => (dsimp only [Around.deeper, ar]; (refine Nat.lt_of_le_of_lt ?_ (by assumption)); simp)); (case y9r => exact NetRead.keeps (by assumption) (Fr.keep (by k_asm))); (case y9c => omega)); intro t9q h9q tk9q F9q N9q; (try dsimp only at N9q)) | ((with_reducible show wpAny _ _ (call (Value.ref 42) _) _ _ _); k_dflt (refine' kind_and ?y9B ?y9F ?y9X ?y9T ?y9N ?y9f ?y9k ?y9d ?y9u ?y9r ?y9s ?y9z ?y9h ?y9x ?_; (case y9B => k_asm); (case y9F => k_asm); (case y9X => k_asm); (case y9T => k_asm); (case y9N => k_asm); (case y9f => exact rfl); (case y9k => exact rfl); (case y9d => (dsimp only [Around.deeper, ar]; (refine Nat.lt_of_le_of_lt ?_ (by assumption)); simp)); (case y9u => (dsimp only [Around.deeper, ar]; (refine Nat.lt_of_le_of_lt ?_ (by assumption)); simp)); (case y9r => assumption); (case y9s => assumption); (case y9z => omega); (case y9h => first | assumption | exact Has.neg (by assumption)); (case y9x => first | assumption | (rw [ab_neg]; assumption))); intro t9q h9q tk9q F9q N9q; (try dsimp only at N9q)) | ((with_reducible show wpAny _ _ (call (Value.ref 49) _) _ _ _); k_dflt (refine' parts_at ?y9B ?y9F ?y9X ?y9T ?y9N ?y9f ?y9k ?y9d ?y9u ?y9r ?y9s ?y9z ?y9h ?y9x ?_; (case y9B => k_asm); (case y9F => k_asm); (case y9X => k_asm); (case y9T => k_asm); (case y9N => k_asm); (case y9f => exact rfl); (case y9k => exact rfl); (case y9d => (dsimp only [Around.deeper, ar]; (refine Nat.lt_of_le_of_lt ?_ (by assumption)); simp)); (case y9u => (dsimp only [Around.deeper, ar]; (refine Nat.lt_of_le_of_lt ?_ (by assumption)); simp)); (case y9r => assumption); (case y9s => assumption); (case y9z => omega); (case y9h => first | assumption | exact Has.neg (by assumption)); (case y9x => first | assumption | (rw [ab_neg]; assumption))); intro t9q h9q tk9q F9q N9q ht9q ho9q; (try dsimp only at N9q)) | ((with_reducible show wpAny _ _ (call (Value.ref 176) _) _ _ _); k_dflt (refine' truth_use ?y9B ?y9F ?y9X ?y9T ?y9N ?y9f ?y9k ?y9d ?y9u ?y9m ?y9r ?y9p ?y9t ?y9l ?y90 ?y91 ?y9w ?_; (case y9B => k_asm); (case y9F => k_asm); (case y9X => k_asm); (case y9T => k_asm); (case y9N => k_asm); (case y9f => exact rfl); (case y9k => exact rfl); (case y9d => (dsimp only [Around.deeper, ar]; (refine Nat.lt_of_le_of_lt ?_ (by assumption)); simp)); (case y9u => (dsimp only [Around.deeper, ar]; (refine Nat.lt_of_le_of_lt ?_ (by assumption)); simp)); (case y9m => k_mem); (case y9r => assumption); (case y9p => exact pool_rows (by assumption) (by assumption) (by intro pq hpq; repeat (first | exact hpq | apply List.Mem.tail))); (case y9t => omega); (case y9l => omega); (case y90 => omega); (case y91 => omega); (case y9w => omega)); intro h9q tk9q F9q N9q; (try dsimp only at N9q))))) | (refine Stop.out (n := 6) ?_; (first | (first | (k_dflt (refine' ne_tups_same ?y9F ?y9a ?y9b ?y9u ?_; (case y9F => k_asm); (case y9a => assumption); (case y9b => assumption); (case y9u => (dsimp only [Around.deeper, ar]; (refine Nat.lt_of_le_of_lt ?_ (by assumption)); simp)))) | (k_dflt (refine' ne_ints_same ?y9N ?y9a ?y9b ?y9i ?y9j ?y9e ?y9u ?_; (case y9N => k_asm); (case y9a => k_mem); (case y9b => k_mem); (case y9i => first | assumption | exact IntsAre.nil); (case y9j => first | exact IntsAre.nil | assumption); (case y9e => first | assumption | rfl); (case y9u => (dsimp only [Around.deeper, ar]; (refine Nat.lt_of_le_of_lt ?_ (by assumption)); simp))))))) | (refine Stop.out (n := 7) ?_; (first | ((k_dflt (refine' eq_ints_n ?y9N ?y9a ?y9b ?y9i ?y9j ?y9u ?_; (case y9N => k_asm); (case y9a => k_mem); (case y9b => k_mem); (case y9i => first | assumption | exact IntsAre.nil); (case y9j => first | exact IntsAre.nil | assumption); (case y9u => (dsimp only [Around.deeper, ar]; (refine Nat.lt_of_le_of_lt ?_ (by assumption)); simp))))))) | (refine Stop.out (n := 8) ?_; (first | ((k_dflt (refine' in_tups_not ?y9F ?y9N ?y9m ?y9p ?y9o ?y9t ?y9n ?y9u ?_; (case y9F => k_asm); (case y9N => k_asm); (case y9m => k_mem); (case y9p => assumption); (case y9o => assumption); (case y9t => assumption); (case y9n => assumption); (case y9u => (dsimp only [Around.deeper, ar]; (refine Nat.lt_of_le_of_lt ?_ (by assumption)); simp))))))) | (refine Stop.out (n := 9) ?_; (first | ((k_dflt (refine' append_n ?y9F ?y9N ?y9U ?y9z ?_; (case y9F => k_asm); (case y9N => k_asm); (case y9U => k_updF); (case y9z => omega)); intro h9q F9q N9q; (try dsimp only at N9q))))) | (refine Stop.out (n := 10) ?_; (first | ((k_dflt (refine' list_tupAt ?y9F ?y9N ?y9t ?y9z ?_; (case y9F => k_asm); (case y9N => k_asm); (case y9t => assumption); (case y9z => omega)); intro D9q vs9q c9q h9q F9q N9q l9q hi9q; (try k_lt l9q))))) | (refine Stop.out (n := 11) ?_; (first | ((k_dflt (refine' set_tupAt ?y9h ?y9F ?y9N ?y9t ?y9z ?_; (case y9h => exact rfl); (case y9F => k_asm); (case y9N => k_asm); (case y9t => assumption); (case y9z => omega)); intro D9q h9q o9q tk9q F9q N9q l9q hs9q; (try k_lt l9q))))) | (refine Stop.out (n := 12) ?_; (first | ((k_dflt (refine' sorted_set ?y9h ?y9F ?y9N ?y9m ?y9d ?_; (case y9h => exact rfl); (case y9F => k_asm); (case y9N => k_asm); (case y9m => k_mem); (case y9d => assumption)); intro D9q h9q vs9q c9q tk9q F9q N9q l9q hi9q hl9q; (try k_lt l9q)))))); k_steps)))
    refine Stop.out ?_
    have hWs : TailSub add W9 := fun p hp => by rw [hW]; exact List.mem_append_left _ hp
    have hTl : (growN c ts sn i).1.length = ts.length + i := growN_length c ts sn i
    have hT : ∀ j, 1 ≤ j → j < ts.length + i → ((growN c ts sn i).1.getD j []).length = R := growN_row c ts sn ht2 hrow i
    rename Fr _ _ _ _ => F3
    rename News _ _ _ _ => N3
    replace N3 := news_tail (news_tail (news_tail (news_tail (news_tail (news_tail (news_tail N3))))))
    clear off1 off1' off2 off2'
    refine item_n N3 (by k_mem) (by decide) (by decide) (by simp; omega) (fun v hv => ?_)
    obtain ⟨rw1, n1, bs1, rfl, hm1, hb1⟩ := hrs'.at (i := 1) (by simpa using hv)
    have hlr : Heap.IsList _ rw1 (List.toArray (bs1.map Value.bool)) := ⟨_, (pool_rows hWs hrl (by intro p hp; repeat (first | exact hp | apply List.Mem.tail)) _ hm1).elim (fun h => N3.get h) (fun h => F3.keep _ _ h), rfl, n1, rfl⟩
    have hbl : bs1.length = R := by
      have := hT 1 (Nat.le_refl _) (by omega)
      rw [List.getD_eq_getElem?_getD, hb1] at this; exact this
    (try dsimp only); (try k_fold)
    (k_steps; (repeat' ((first | (refine Stop.out (n := 1) ?_; (first | ((k_dflt (refine' comp_open ?y9c ?y9k ?y9n ?_ ?y9s; (case y9c => with_unfolding_all rfl); (case y9k => exact rfl); (case y9n => decide); (case y9s => (intro _; rfl))))))) | (refine Stop.out (n := 2) ?_; (first | (((rename Fr _ _ _ _ => lF'q); (with_unfolding_all refine' For_invTF lF'q ?_ ?ks; (case ks => (intro _; rfl))))))) | (refine Stop.out (n := 3) ?_; (first | (((rename Fr _ _ _ _ => F'q); (rename News _ _ _ _ => N'q); first | (with_unfolding_all refine range2_rows F'q N'q ?_) | (with_unfolding_all refine range1_rows F'q N'q ?_)); clear F'q N'q; intro h9q tk9q t9q u9q v9q R9q F9q N9q K9q))) | (refine Stop.out (n := 4) ?_; (first | (first | (k_dflt (refine' len_v ?y9N ?y9m ?y9z ?_; (case y9N => k_asm); (case y9m => k_mem); (case y9z => omega)); intro t9q tk9q) | (k_dflt (refine' len_tupAt ?y9F ?y9m ?y9z ?_; (case y9F => k_asm); (case y9m => assumption); (case y9z => omega)); intro t9q tk9q) | (k_dflt (refine' seqIn_len ?y9m ?y9z ?_; (case y9m => assumption); (case y9z => (simp; omega))); intro t9q tk9q)))) | (refine Stop.out (n := 5) ?_; (first | (first | ((with_reducible show wpAny _ _ (call (Value.ref 35) _) _ _ _); k_dflt (refine' size_use ?y9B ?y9F ?y9X ?y9T ?y9N ?y9f ?y9k ?y9d ?y9u ?y9r ?y9c ?_; (case y9B => k_asm); (case y9F => k_asm); (case y9X => k_asm); (case y9T => k_asm); (case y9N => k_asm); (case y9f => exact rfl); (case y9k => exact rfl); (case y9d => (dsimp only [Around.deeper, ar]; (refine Nat.lt_of_le_of_lt ?_ (by assumption)); simp)); (case y9u => (dsimp only [Around.deeper, ar]; (refine Nat.lt_of_le_of_lt ?_ (by assumption)); simp)); (case y9r => exact NetRead.keeps (by assumption) (Fr.keep (by k_asm))); (case y9c => omega)); intro t9q h9q tk9q F9q N9q; (try dsimp only at N9q)) | ((with_reducible show wpAny _ _ (call (Value.ref 42) _) _ _ _); k_dflt (refine' kind_and ?y9B ?y9F ?y9X ?y9T ?y9N ?y9f ?y9k ?y9d ?y9u ?y9r ?y9s ?y9z ?y9h ?y9x ?_; (case y9B => k_asm); (case y9F => k_asm); (case y9X => k_asm); (case y9T => k_asm); (case y9N => k_asm); (case y9f => exact rfl); (case y9k => exact rfl); (case y9d => (dsimp only [Around.deeper, ar]; (refine Nat.lt_of_le_of_lt ?_ (by assumption)); simp)); (case y9u => (dsimp only [Around.deeper, ar]; (refine Nat.lt_of_le_of_lt ?_ (by assumption)); simp)); (case y9r => assumption); (case y9s => assumption); (case y9z => omega); (case y9h => first | assumption | exact Has.neg (by assumption)); (case y9x => first | assumption | (rw [ab_neg]; assumption))); intro t9q h9q tk9q F9q N9q; (try dsimp only at N9q)) | ((with_reducible show wpAny _ _ (call (Value.ref 49) _) _ _ _); k_dflt (refine' parts_at ?y9B ?y9F ?y9X ?y9T ?y9N ?y9f ?y9k ?y9d ?y9u ?y9r ?y9s ?y9z ?y9h ?y9x ?_; (case y9B => k_asm); (case y9F => k_asm); (case y9X => k_asm); (case y9T => k_asm); (case y9N => k_asm); (case y9f => exact rfl); (case y9k => exact rfl); (case y9d => (dsimp only [Around.deeper, ar]; (refine Nat.lt_of_le_of_lt ?_ (by assumption)); simp)); (case y9u => (dsimp only [Around.deeper, ar]; (refine Nat.lt_of_le_of_lt ?_ (by assumption)); simp)); (case y9r => assumption); (case y9s => assumption); (case y9z => omega); (case y9h => first | assumption | exact Has.neg (by assumption)); (case y9x => first | assumption | (rw [ab_neg]; assumption))); intro t9q h9q tk9q F9q N9q ht9q ho9q; (try dsimp only at N9q)) | ((with_reducible show wpAny _ _ (call (Value.ref 176) _) _ _ _); k_dflt (refine' truth_use ?y9B ?y9F ?y9X ?y9T ?y9N ?y9f ?y9k ?y9d ?y9u ?y9m ?y9r ?y9p ?y9t ?y9l ?y90 ?y91 ?y9w ?_; (case y9B => k_asm); (case y9F => k_asm); (case y9X => k_asm); (case y9T => k_asm); (case y9N => k_asm); (case y9f => exact rfl); (case y9k => exact rfl); (case y9d => (dsimp only [Around.deeper, ar]; (refine Nat.lt_of_le_of_lt ?_ (by assumption)); simp)); (case y9u => (dsimp only [Around.deeper, ar]; (refine Nat.lt_of_le_of_lt ?_ (by assumption)); simp)); (case y9m => k_mem); (case y9r => assumption); (case y9p => exact pool_rows (by assumption) (by assumption) (by intro pq hpq; repeat (first | exact hpq | apply List.Mem.tail))); (case y9t => omega); (case y9l => omega); (case y90 => omega); (case y91 => omega); (case y9w => omega)); intro h9q tk9q F9q N9q; (try dsimp only at N9q))))) | (refine Stop.out (n := 6) ?_; (first | (first | (k_dflt (refine' ne_tups_same ?y9F ?y9a ?y9b ?y9u ?_; (case y9F => k_asm); (case y9a => assumption); (case y9b => assumption); (case y9u => (dsimp only [Around.deeper, ar]; (refine Nat.lt_of_le_of_lt ?_ (by assumption)); simp)))) | (k_dflt (refine' ne_ints_same ?y9N ?y9a ?y9b ?y9i ?y9j ?y9e ?y9u ?_; (case y9N => k_asm); (case y9a => k_mem); (case y9b => k_mem); (case y9i => first | assumption | exact IntsAre.nil); (case y9j => first | exact IntsAre.nil | assumption); (case y9e => first | assumption | rfl); (case y9u => (dsimp only [Around.deeper, ar]; (refine Nat.lt_of_le_of_lt ?_ (by assumption)); simp))))))) | (refine Stop.out (n := 7) ?_; (first | ((k_dflt (refine' eq_ints_n ?y9N ?y9a ?y9b ?y9i ?y9j ?y9u ?_; (case y9N => k_asm); (case y9a => k_mem); (case y9b => k_mem); (case y9i => first | assumption | exact IntsAre.nil); (case y9j => first | exact IntsAre.nil | assumption); (case y9u => (dsimp only [Around.deeper, ar]; (refine Nat.lt_of_le_of_lt ?_ (by assumption)); simp))))))) | (refine Stop.out (n := 8) ?_; (first | ((k_dflt (refine' in_tups_not ?y9F ?y9N ?y9m ?y9p ?y9o ?y9t ?y9n ?y9u ?_; (case y9F => k_asm); (case y9N => k_asm); (case y9m => k_mem); (case y9p => assumption); (case y9o => assumption); (case y9t => assumption); (case y9n => assumption); (case y9u => (dsimp only [Around.deeper, ar]; (refine Nat.lt_of_le_of_lt ?_ (by assumption)); simp))))))) | (refine Stop.out (n := 9) ?_; (first | ((k_dflt (refine' append_n ?y9F ?y9N ?y9U ?y9z ?_; (case y9F => k_asm); (case y9N => k_asm); (case y9U => k_updF); (case y9z => omega)); intro h9q F9q N9q; (try dsimp only at N9q))))) | (refine Stop.out (n := 10) ?_; (first | ((k_dflt (refine' list_tupAt ?y9F ?y9N ?y9t ?y9z ?_; (case y9F => k_asm); (case y9N => k_asm); (case y9t => assumption); (case y9z => omega)); intro D9q vs9q c9q h9q F9q N9q l9q hi9q; (try k_lt l9q))))) | (refine Stop.out (n := 11) ?_; (first | ((k_dflt (refine' set_tupAt ?y9h ?y9F ?y9N ?y9t ?y9z ?_; (case y9h => exact rfl); (case y9F => k_asm); (case y9N => k_asm); (case y9t => assumption); (case y9z => omega)); intro D9q h9q o9q tk9q F9q N9q l9q hs9q; (try k_lt l9q))))) | (refine Stop.out (n := 12) ?_; (first | ((k_dflt (refine' sorted_set ?y9h ?y9F ?y9N ?y9m ?y9d ?_; (case y9h => exact rfl); (case y9F => k_asm); (case y9N => k_asm); (case y9m => k_mem); (case y9d => assumption)); intro D9q h9q vs9q c9q tk9q F9q N9q l9q hi9q hl9q; (try k_lt l9q)))))); k_steps)))
    refine Stop.out ?_
    rename IsRange _ _ _ _ _ _ _ _ => R4
    rename Fr _ _ _ _ => F4
    rename News _ _ _ _ => N4
    refine comp_range_C (n := R) (fun r ys nx => nx = _ ∧ ys = ((List.range r).map fun r => decide ((p.filter fun x => !truthF (growN c ts sn i).1 x r) = [])).map Value.bool) rfl (fun _ _ => rfl) (fun _ => rfl) rfl (by with_unfolding_all rfl) R4 (small_one (by omega) (by omega) (by first | omega | (simp [hbl]; done) | (simp [hbl]; omega)) (by first | omega | (simp [hbl]; done) | (simp [hbl]; omega))) (by rw [rangeSize_nat]; simp [hbl]) (by rw [sizeLine_eq]; omega) F4 N4 ⟨rfl, rfl⟩ ?_ ?_
    · rintro r t' I oI C' oC K oK D h tk' E' ys nx hrR hoK F9 N9 off ne ⟨rfl, rfl⟩
      refine opq fun PR hPR => ?_
      (try dsimp only); (try k_fold)
      (k_steps; (repeat' ((first | (refine Stop.out (n := 1) ?_; (first | ((k_dflt (refine' comp_open ?y9c ?y9k ?y9n ?_ ?y9s; (case y9c => with_unfolding_all rfl); (case y9k => exact rfl); (case y9n => decide); (case y9s => (intro _; rfl))))))) | (refine Stop.out (n := 2) ?_; (first | (((rename Fr _ _ _ _ => lF'q); (with_unfolding_all refine' For_invTF lF'q ?_ ?ks; (case ks => (intro _; rfl))))))) | (refine Stop.out (n := 3) ?_; (first | (((rename Fr _ _ _ _ => F'q); (rename News _ _ _ _ => N'q); first | (with_unfolding_all refine range2_rows F'q N'q ?_) | (with_unfolding_all refine range1_rows F'q N'q ?_)); clear F'q N'q; intro h9q tk9q t9q u9q v9q R9q F9q N9q K9q))) | (refine Stop.out (n := 4) ?_; (first | (first | (k_dflt (refine' len_v ?y9N ?y9m ?y9z ?_; (case y9N => k_asm); (case y9m => k_mem); (case y9z => omega)); intro t9q tk9q) | (k_dflt (refine' len_tupAt ?y9F ?y9m ?y9z ?_; (case y9F => k_asm); (case y9m => assumption); (case y9z => omega)); intro t9q tk9q) | (k_dflt (refine' seqIn_len ?y9m ?y9z ?_; (case y9m => assumption); (case y9z => (simp; omega))); intro t9q tk9q)))) | (refine Stop.out (n := 5) ?_; (first | (first | ((with_reducible show wpAny _ _ (call (Value.ref 35) _) _ _ _); k_dflt (refine' size_use ?y9B ?y9F ?y9X ?y9T ?y9N ?y9f ?y9k ?y9d ?y9u ?y9r ?y9c ?_; (case y9B => k_asm); (case y9F => k_asm); (case y9X => k_asm); (case y9T => k_asm); (case y9N => k_asm); (case y9f => exact rfl); (case y9k => exact rfl); (case y9d => (dsimp only [Around.deeper, ar]; (refine Nat.lt_of_le_of_lt ?_ (by assumption)); simp)); (case y9u => (dsimp only [Around.deeper, ar]; (refine Nat.lt_of_le_of_lt ?_ (by assumption)); simp)); (case y9r => exact NetRead.keeps (by assumption) (Fr.keep (by k_asm))); (case y9c => omega)); intro t9q h9q tk9q F9q N9q; (try dsimp only at N9q)) | ((with_reducible show wpAny _ _ (call (Value.ref 42) _) _ _ _); k_dflt (refine' kind_and ?y9B ?y9F ?y9X ?y9T ?y9N ?y9f ?y9k ?y9d ?y9u ?y9r ?y9s ?y9z ?y9h ?y9x ?_; (case y9B => k_asm); (case y9F => k_asm); (case y9X => k_asm); (case y9T => k_asm); (case y9N => k_asm); (case y9f => exact rfl); (case y9k => exact rfl); (case y9d => (dsimp only [Around.deeper, ar]; (refine Nat.lt_of_le_of_lt ?_ (by assumption)); simp)); (case y9u => (dsimp only [Around.deeper, ar]; (refine Nat.lt_of_le_of_lt ?_ (by assumption)); simp)); (case y9r => assumption); (case y9s => assumption); (case y9z => omega); (case y9h => first | assumption | exact Has.neg (by assumption)); (case y9x => first | assumption | (rw [ab_neg]; assumption))); intro t9q h9q tk9q F9q N9q; (try dsimp only at N9q)) | ((with_reducible show wpAny _ _ (call (Value.ref 49) _) _ _ _); k_dflt (refine' parts_at ?y9B ?y9F ?y9X ?y9T ?y9N ?y9f ?y9k ?y9d ?y9u ?y9r ?y9s ?y9z ?y9h ?y9x ?_; (case y9B => k_asm); (case y9F => k_asm); (case y9X => k_asm); (case y9T => k_asm); (case y9N => k_asm); (case y9f => exact rfl); (case y9k => exact rfl); (case y9d => (dsimp only [Around.deeper, ar]; (refine Nat.lt_of_le_of_lt ?_ (by assumption)); simp)); (case y9u => (dsimp only [Around.deeper, ar]; (refine Nat.lt_of_le_of_lt ?_ (by assumption)); simp)); (case y9r => assumption); (case y9s => assumption); (case y9z => omega); (case y9h => first | assumption | exact Has.neg (by assumption)); (case y9x => first | assumption | (rw [ab_neg]; assumption))); intro t9q h9q tk9q F9q N9q ht9q ho9q; (try dsimp only at N9q)) | ((with_reducible show wpAny _ _ (call (Value.ref 176) _) _ _ _); k_dflt (refine' truth_use ?y9B ?y9F ?y9X ?y9T ?y9N ?y9f ?y9k ?y9d ?y9u ?y9m ?y9r ?y9p ?y9t ?y9l ?y90 ?y91 ?y9w ?_; (case y9B => k_asm); (case y9F => k_asm); (case y9X => k_asm); (case y9T => k_asm); (case y9N => k_asm); (case y9f => exact rfl); (case y9k => exact rfl); (case y9d => (dsimp only [Around.deeper, ar]; (refine Nat.lt_of_le_of_lt ?_ (by assumption)); simp)); (case y9u => (dsimp only [Around.deeper, ar]; (refine Nat.lt_of_le_of_lt ?_ (by assumption)); simp)); (case y9m => k_mem); (case y9r => assumption); (case y9p => exact pool_rows (by assumption) (by assumption) (by intro pq hpq; repeat (first | exact hpq | apply List.Mem.tail))); (case y9t => omega); (case y9l => omega); (case y90 => omega); (case y91 => omega); (case y9w => omega)); intro h9q tk9q F9q N9q; (try dsimp only at N9q))))) | (refine Stop.out (n := 6) ?_; (first | (first | (k_dflt (refine' ne_tups_same ?y9F ?y9a ?y9b ?y9u ?_; (case y9F => k_asm); (case y9a => assumption); (case y9b => assumption); (case y9u => (dsimp only [Around.deeper, ar]; (refine Nat.lt_of_le_of_lt ?_ (by assumption)); simp)))) | (k_dflt (refine' ne_ints_same ?y9N ?y9a ?y9b ?y9i ?y9j ?y9e ?y9u ?_; (case y9N => k_asm); (case y9a => k_mem); (case y9b => k_mem); (case y9i => first | assumption | exact IntsAre.nil); (case y9j => first | exact IntsAre.nil | assumption); (case y9e => first | assumption | rfl); (case y9u => (dsimp only [Around.deeper, ar]; (refine Nat.lt_of_le_of_lt ?_ (by assumption)); simp))))))) | (refine Stop.out (n := 7) ?_; (first | ((k_dflt (refine' eq_ints_n ?y9N ?y9a ?y9b ?y9i ?y9j ?y9u ?_; (case y9N => k_asm); (case y9a => k_mem); (case y9b => k_mem); (case y9i => first | assumption | exact IntsAre.nil); (case y9j => first | exact IntsAre.nil | assumption); (case y9u => (dsimp only [Around.deeper, ar]; (refine Nat.lt_of_le_of_lt ?_ (by assumption)); simp))))))) | (refine Stop.out (n := 8) ?_; (first | ((k_dflt (refine' in_tups_not ?y9F ?y9N ?y9m ?y9p ?y9o ?y9t ?y9n ?y9u ?_; (case y9F => k_asm); (case y9N => k_asm); (case y9m => k_mem); (case y9p => assumption); (case y9o => assumption); (case y9t => assumption); (case y9n => assumption); (case y9u => (dsimp only [Around.deeper, ar]; (refine Nat.lt_of_le_of_lt ?_ (by assumption)); simp))))))) | (refine Stop.out (n := 9) ?_; (first | ((k_dflt (refine' append_n ?y9F ?y9N ?y9U ?y9z ?_; (case y9F => k_asm); (case y9N => k_asm); (case y9U => k_updF); (case y9z => omega)); intro h9q F9q N9q; (try dsimp only at N9q))))) | (refine Stop.out (n := 10) ?_; (first | ((k_dflt (refine' list_tupAt ?y9F ?y9N ?y9t ?y9z ?_; (case y9F => k_asm); (case y9N => k_asm); (case y9t => assumption); (case y9z => omega)); intro D9q vs9q c9q h9q F9q N9q l9q hi9q; (try k_lt l9q))))) | (refine Stop.out (n := 11) ?_; (first | ((k_dflt (refine' set_tupAt ?y9h ?y9F ?y9N ?y9t ?y9z ?_; (case y9h => exact rfl); (case y9F => k_asm); (case y9N => k_asm); (case y9t => assumption); (case y9z => omega)); intro D9q h9q o9q tk9q F9q N9q l9q hs9q; (try k_lt l9q))))) | (refine Stop.out (n := 12) ?_; (first | ((k_dflt (refine' sorted_set ?y9h ?y9F ?y9N ?y9m ?y9d ?_; (case y9h => exact rfl); (case y9F => k_asm); (case y9N => k_asm); (case y9m => k_mem); (case y9d => assumption)); intro D9q h9q vs9q c9q tk9q F9q N9q l9q hi9q hl9q; (try k_lt l9q)))))); k_steps)))
      refine Stop.out ?_
      have hr0 : (0 + (r : Int)).toNat = r := by omega
      refine comp_filter (fun x => !truthF (growN c ts sn i).1 x r) (by assumption) (by omega) rfl (by decide) rfl rfl (by assumption) (by assumption) ?_ ?_
      · rintro k tk I2 oI2 C2 oC2 D2 m₂ h tk' E' ys hkp hoC hx F9 N9 off5a ne
        refine opqT fun PC PC0 hPC hPC0 => ?_
        have hk1 := qu k hkp
        have hk2 := hT (ab k).toNat (by omega) (by omega)
        (try dsimp only); (try k_fold)
        (k_steps; (repeat' ((first | (refine Stop.out (n := 1) ?_; (first | ((k_dflt (refine' comp_open ?y9c ?y9k ?y9n ?_ ?y9s; (case y9c => with_unfolding_all rfl); (case y9k => exact rfl); (case y9n => decide); (case y9s => (intro _; rfl))))))) | (refine Stop.out (n := 2) ?_; (first | (((rename Fr _ _ _ _ => lF'q); (with_unfolding_all refine' For_invTF lF'q ?_ ?ks; (case ks => (intro _; rfl))))))) | (refine Stop.out (n := 3) ?_; (first | (((rename Fr _ _ _ _ => F'q); (rename News _ _ _ _ => N'q); first | (with_unfolding_all refine range2_rows F'q N'q ?_) | (with_unfolding_all refine range1_rows F'q N'q ?_)); clear F'q N'q; intro h9q tk9q t9q u9q v9q R9q F9q N9q K9q))) | (refine Stop.out (n := 4) ?_; (first | (first | (k_dflt (refine' len_v ?y9N ?y9m ?y9z ?_; (case y9N => k_asm); (case y9m => k_mem); (case y9z => omega)); intro t9q tk9q) | (k_dflt (refine' len_tupAt ?y9F ?y9m ?y9z ?_; (case y9F => k_asm); (case y9m => assumption); (case y9z => omega)); intro t9q tk9q) | (k_dflt (refine' seqIn_len ?y9m ?y9z ?_; (case y9m => assumption); (case y9z => (simp; omega))); intro t9q tk9q)))) | (refine Stop.out (n := 5) ?_; (first | (first | ((with_reducible show wpAny _ _ (call (Value.ref 35) _) _ _ _); k_dflt (refine' size_use ?y9B ?y9F ?y9X ?y9T ?y9N ?y9f ?y9k ?y9d ?y9u ?y9r ?y9c ?_; (case y9B => k_asm); (case y9F => k_asm); (case y9X => k_asm); (case y9T => k_asm); (case y9N => k_asm); (case y9f => exact rfl); (case y9k => exact rfl); (case y9d => (dsimp only [Around.deeper, ar]; (refine Nat.lt_of_le_of_lt ?_ (by assumption)); simp)); (case y9u => (dsimp only [Around.deeper, ar]; (refine Nat.lt_of_le_of_lt ?_ (by assumption)); simp)); (case y9r => exact NetRead.keeps (by assumption) (Fr.keep (by k_asm))); (case y9c => omega)); intro t9q h9q tk9q F9q N9q; (try dsimp only at N9q)) | ((with_reducible show wpAny _ _ (call (Value.ref 42) _) _ _ _); k_dflt (refine' kind_and ?y9B ?y9F ?y9X ?y9T ?y9N ?y9f ?y9k ?y9d ?y9u ?y9r ?y9s ?y9z ?y9h ?y9x ?_; (case y9B => k_asm); (case y9F => k_asm); (case y9X => k_asm); (case y9T => k_asm); (case y9N => k_asm); (case y9f => exact rfl); (case y9k => exact rfl); (case y9d => (dsimp only [Around.deeper, ar]; (refine Nat.lt_of_le_of_lt ?_ (by assumption)); simp)); (case y9u => (dsimp only [Around.deeper, ar]; (refine Nat.lt_of_le_of_lt ?_ (by assumption)); simp)); (case y9r => assumption); (case y9s => assumption); (case y9z => omega); (case y9h => first | assumption | exact Has.neg (by assumption)); (case y9x => first | assumption | (rw [ab_neg]; assumption))); intro t9q h9q tk9q F9q N9q; (try dsimp only at N9q)) | ((with_reducible show wpAny _ _ (call (Value.ref 49) _) _ _ _); k_dflt (refine' parts_at ?y9B ?y9F ?y9X ?y9T ?y9N ?y9f ?y9k ?y9d ?y9u ?y9r ?y9s ?y9z ?y9h ?y9x ?_; (case y9B => k_asm); (case y9F => k_asm); (case y9X => k_asm); (case y9T => k_asm); (case y9N => k_asm); (case y9f => exact rfl); (case y9k => exact rfl); (case y9d => (dsimp only [Around.deeper, ar]; (refine Nat.lt_of_le_of_lt ?_ (by assumption)); simp)); (case y9u => (dsimp only [Around.deeper, ar]; (refine Nat.lt_of_le_of_lt ?_ (by assumption)); simp)); (case y9r => assumption); (case y9s => assumption); (case y9z => omega); (case y9h => first | assumption | exact Has.neg (by assumption)); (case y9x => first | assumption | (rw [ab_neg]; assumption))); intro t9q h9q tk9q F9q N9q ht9q ho9q; (try dsimp only at N9q)) | ((with_reducible show wpAny _ _ (call (Value.ref 176) _) _ _ _); k_dflt (refine' truth_use ?y9B ?y9F ?y9X ?y9T ?y9N ?y9f ?y9k ?y9d ?y9u ?y9m ?y9r ?y9p ?y9t ?y9l ?y90 ?y91 ?y9w ?_; (case y9B => k_asm); (case y9F => k_asm); (case y9X => k_asm); (case y9T => k_asm); (case y9N => k_asm); (case y9f => exact rfl); (case y9k => exact rfl); (case y9d => (dsimp only [Around.deeper, ar]; (refine Nat.lt_of_le_of_lt ?_ (by assumption)); simp)); (case y9u => (dsimp only [Around.deeper, ar]; (refine Nat.lt_of_le_of_lt ?_ (by assumption)); simp)); (case y9m => k_mem); (case y9r => assumption); (case y9p => exact pool_rows (by assumption) (by assumption) (by intro pq hpq; repeat (first | exact hpq | apply List.Mem.tail))); (case y9t => omega); (case y9l => omega); (case y90 => omega); (case y91 => omega); (case y9w => omega)); intro h9q tk9q F9q N9q; (try dsimp only at N9q))))) | (refine Stop.out (n := 6) ?_; (first | (first | (k_dflt (refine' ne_tups_same ?y9F ?y9a ?y9b ?y9u ?_; (case y9F => k_asm); (case y9a => assumption); (case y9b => assumption); (case y9u => (dsimp only [Around.deeper, ar]; (refine Nat.lt_of_le_of_lt ?_ (by assumption)); simp)))) | (k_dflt (refine' ne_ints_same ?y9N ?y9a ?y9b ?y9i ?y9j ?y9e ?y9u ?_; (case y9N => k_asm); (case y9a => k_mem); (case y9b => k_mem); (case y9i => first | assumption | exact IntsAre.nil); (case y9j => first | exact IntsAre.nil | assumption); (case y9e => first | assumption | rfl); (case y9u => (dsimp only [Around.deeper, ar]; (refine Nat.lt_of_le_of_lt ?_ (by assumption)); simp))))))) | (refine Stop.out (n := 7) ?_; (first | ((k_dflt (refine' eq_ints_n ?y9N ?y9a ?y9b ?y9i ?y9j ?y9u ?_; (case y9N => k_asm); (case y9a => k_mem); (case y9b => k_mem); (case y9i => first | assumption | exact IntsAre.nil); (case y9j => first | exact IntsAre.nil | assumption); (case y9u => (dsimp only [Around.deeper, ar]; (refine Nat.lt_of_le_of_lt ?_ (by assumption)); simp))))))) | (refine Stop.out (n := 8) ?_; (first | ((k_dflt (refine' in_tups_not ?y9F ?y9N ?y9m ?y9p ?y9o ?y9t ?y9n ?y9u ?_; (case y9F => k_asm); (case y9N => k_asm); (case y9m => k_mem); (case y9p => assumption); (case y9o => assumption); (case y9t => assumption); (case y9n => assumption); (case y9u => (dsimp only [Around.deeper, ar]; (refine Nat.lt_of_le_of_lt ?_ (by assumption)); simp))))))) | (refine Stop.out (n := 9) ?_; (first | ((k_dflt (refine' append_n ?y9F ?y9N ?y9U ?y9z ?_; (case y9F => k_asm); (case y9N => k_asm); (case y9U => k_updF); (case y9z => omega)); intro h9q F9q N9q; (try dsimp only at N9q))))) | (refine Stop.out (n := 10) ?_; (first | ((k_dflt (refine' list_tupAt ?y9F ?y9N ?y9t ?y9z ?_; (case y9F => k_asm); (case y9N => k_asm); (case y9t => assumption); (case y9z => omega)); intro D9q vs9q c9q h9q F9q N9q l9q hi9q; (try k_lt l9q))))) | (refine Stop.out (n := 11) ?_; (first | ((k_dflt (refine' set_tupAt ?y9h ?y9F ?y9N ?y9t ?y9z ?_; (case y9h => exact rfl); (case y9F => k_asm); (case y9N => k_asm); (case y9t => assumption); (case y9z => omega)); intro D9q h9q o9q tk9q F9q N9q l9q hs9q; (try k_lt l9q))))) | (refine Stop.out (n := 12) ?_; (first | ((k_dflt (refine' sorted_set ?y9h ?y9F ?y9N ?y9m ?y9d ?_; (case y9h => exact rfl); (case y9F => k_asm); (case y9N => k_asm); (case y9m => k_mem); (case y9d => assumption)); intro D9q h9q vs9q c9q tk9q F9q N9q l9q hi9q hl9q; (try k_lt l9q)))))); k_steps)))
        · rename_i ha
          rw [hr0] at ha
          exact hPC0 _ (TEnd.intro (by assumption) (by assumption) off5a ⟨rfl, by rw [ha]; rfl⟩)
        · rename_i ha
          rw [hr0] at ha
          exact hPC _ _ (TEnd.intro (by assumption) (by assumption) off5a ⟨rfl, by rw [ha]; rfl, _, rfl⟩)
      · rintro D5 h5 tk5 ys5 hys5 F5 N5 off5
        have off5' := off5
        simp only [LCg.Off1] at off5'
        (try dsimp only); (try k_fold)
        (k_steps; (repeat' ((first | (refine Stop.out (n := 1) ?_; (first | ((k_dflt (refine' comp_open ?y9c ?y9k ?y9n ?_ ?y9s; (case y9c => with_unfolding_all rfl); (case y9k => exact rfl); (case y9n => decide); (case y9s => (intro _; rfl))))))) | (refine Stop.out (n := 2) ?_; (first | (((rename Fr _ _ _ _ => lF'q); (with_unfolding_all refine' For_invTF lF'q ?_ ?ks; (case ks => (intro _; rfl))))))) | (refine Stop.out (n := 3) ?_; (first | (((rename Fr _ _ _ _ => F'q); (rename News _ _ _ _ => N'q); first | (with_unfolding_all refine range2_rows F'q N'q ?_) | (with_unfolding_all refine range1_rows F'q N'q ?_)); clear F'q N'q; intro h9q tk9q t9q u9q v9q R9q F9q N9q K9q))) | (refine Stop.out (n := 4) ?_; (first | (first | (k_dflt (refine' len_v ?y9N ?y9m ?y9z ?_; (case y9N => k_asm); (case y9m => k_mem); (case y9z => omega)); intro t9q tk9q) | (k_dflt (refine' len_tupAt ?y9F ?y9m ?y9z ?_; (case y9F => k_asm); (case y9m => assumption); (case y9z => omega)); intro t9q tk9q) | (k_dflt (refine' seqIn_len ?y9m ?y9z ?_; (case y9m => assumption); (case y9z => (simp; omega))); intro t9q tk9q)))) | (refine Stop.out (n := 5) ?_; (first | (first | ((with_reducible show wpAny _ _ (call (Value.ref 35) _) _ _ _); k_dflt (refine' size_use ?y9B ?y9F ?y9X ?y9T ?y9N ?y9f ?y9k ?y9d ?y9u ?y9r ?y9c ?_; (case y9B => k_asm); (case y9F => k_asm); (case y9X => k_asm); (case y9T => k_asm); (case y9N => k_asm); (case y9f => exact rfl); (case y9k => exact rfl); (case y9d => (dsimp only [Around.deeper, ar]; (refine Nat.lt_of_le_of_lt ?_ (by assumption)); simp)); (case y9u => (dsimp only [Around.deeper, ar]; (refine Nat.lt_of_le_of_lt ?_ (by assumption)); simp)); (case y9r => exact NetRead.keeps (by assumption) (Fr.keep (by k_asm))); (case y9c => omega)); intro t9q h9q tk9q F9q N9q; (try dsimp only at N9q)) | ((with_reducible show wpAny _ _ (call (Value.ref 42) _) _ _ _); k_dflt (refine' kind_and ?y9B ?y9F ?y9X ?y9T ?y9N ?y9f ?y9k ?y9d ?y9u ?y9r ?y9s ?y9z ?y9h ?y9x ?_; (case y9B => k_asm); (case y9F => k_asm); (case y9X => k_asm); (case y9T => k_asm); (case y9N => k_asm); (case y9f => exact rfl); (case y9k => exact rfl); (case y9d => (dsimp only [Around.deeper, ar]; (refine Nat.lt_of_le_of_lt ?_ (by assumption)); simp)); (case y9u => (dsimp only [Around.deeper, ar]; (refine Nat.lt_of_le_of_lt ?_ (by assumption)); simp)); (case y9r => assumption); (case y9s => assumption); (case y9z => omega); (case y9h => first | assumption | exact Has.neg (by assumption)); (case y9x => first | assumption | (rw [ab_neg]; assumption))); intro t9q h9q tk9q F9q N9q; (try dsimp only at N9q)) | ((with_reducible show wpAny _ _ (call (Value.ref 49) _) _ _ _); k_dflt (refine' parts_at ?y9B ?y9F ?y9X ?y9T ?y9N ?y9f ?y9k ?y9d ?y9u ?y9r ?y9s ?y9z ?y9h ?y9x ?_; (case y9B => k_asm); (case y9F => k_asm); (case y9X => k_asm); (case y9T => k_asm); (case y9N => k_asm); (case y9f => exact rfl); (case y9k => exact rfl); (case y9d => (dsimp only [Around.deeper, ar]; (refine Nat.lt_of_le_of_lt ?_ (by assumption)); simp)); (case y9u => (dsimp only [Around.deeper, ar]; (refine Nat.lt_of_le_of_lt ?_ (by assumption)); simp)); (case y9r => assumption); (case y9s => assumption); (case y9z => omega); (case y9h => first | assumption | exact Has.neg (by assumption)); (case y9x => first | assumption | (rw [ab_neg]; assumption))); intro t9q h9q tk9q F9q N9q ht9q ho9q; (try dsimp only at N9q)) | ((with_reducible show wpAny _ _ (call (Value.ref 176) _) _ _ _); k_dflt (refine' truth_use ?y9B ?y9F ?y9X ?y9T ?y9N ?y9f ?y9k ?y9d ?y9u ?y9m ?y9r ?y9p ?y9t ?y9l ?y90 ?y91 ?y9w ?_; (case y9B => k_asm); (case y9F => k_asm); (case y9X => k_asm); (case y9T => k_asm); (case y9N => k_asm); (case y9f => exact rfl); (case y9k => exact rfl); (case y9d => (dsimp only [Around.deeper, ar]; (refine Nat.lt_of_le_of_lt ?_ (by assumption)); simp)); (case y9u => (dsimp only [Around.deeper, ar]; (refine Nat.lt_of_le_of_lt ?_ (by assumption)); simp)); (case y9m => k_mem); (case y9r => assumption); (case y9p => exact pool_rows (by assumption) (by assumption) (by intro pq hpq; repeat (first | exact hpq | apply List.Mem.tail))); (case y9t => omega); (case y9l => omega); (case y90 => omega); (case y91 => omega); (case y9w => omega)); intro h9q tk9q F9q N9q; (try dsimp only at N9q))))) | (refine Stop.out (n := 6) ?_; (first | (first | (k_dflt (refine' ne_tups_same ?y9F ?y9a ?y9b ?y9u ?_; (case y9F => k_asm); (case y9a => assumption); (case y9b => assumption); (case y9u => (dsimp only [Around.deeper, ar]; (refine Nat.lt_of_le_of_lt ?_ (by assumption)); simp)))) | (k_dflt (refine' ne_ints_same ?y9N ?y9a ?y9b ?y9i ?y9j ?y9e ?y9u ?_; (case y9N => k_asm); (case y9a => k_mem); (case y9b => k_mem); (case y9i => first | assumption | exact IntsAre.nil); (case y9j => first | exact IntsAre.nil | assumption); (case y9e => first | assumption | rfl); (case y9u => (dsimp only [Around.deeper, ar]; (refine Nat.lt_of_le_of_lt ?_ (by assumption)); simp))))))) | (refine Stop.out (n := 7) ?_; (first | ((k_dflt (refine' eq_ints_n ?y9N ?y9a ?y9b ?y9i ?y9j ?y9u ?_; (case y9N => k_asm); (case y9a => k_mem); (case y9b => k_mem); (case y9i => first | assumption | exact IntsAre.nil); (case y9j => first | exact IntsAre.nil | assumption); (case y9u => (dsimp only [Around.deeper, ar]; (refine Nat.lt_of_le_of_lt ?_ (by assumption)); simp))))))) | (refine Stop.out (n := 8) ?_; (first | ((k_dflt (refine' in_tups_not ?y9F ?y9N ?y9m ?y9p ?y9o ?y9t ?y9n ?y9u ?_; (case y9F => k_asm); (case y9N => k_asm); (case y9m => k_mem); (case y9p => assumption); (case y9o => assumption); (case y9t => assumption); (case y9n => assumption); (case y9u => (dsimp only [Around.deeper, ar]; (refine Nat.lt_of_le_of_lt ?_ (by assumption)); simp))))))) | (refine Stop.out (n := 9) ?_; (first | ((k_dflt (refine' append_n ?y9F ?y9N ?y9U ?y9z ?_; (case y9F => k_asm); (case y9N => k_asm); (case y9U => k_updF); (case y9z => omega)); intro h9q F9q N9q; (try dsimp only at N9q))))) | (refine Stop.out (n := 10) ?_; (first | ((k_dflt (refine' list_tupAt ?y9F ?y9N ?y9t ?y9z ?_; (case y9F => k_asm); (case y9N => k_asm); (case y9t => assumption); (case y9z => omega)); intro D9q vs9q c9q h9q F9q N9q l9q hi9q; (try k_lt l9q))))) | (refine Stop.out (n := 11) ?_; (first | ((k_dflt (refine' set_tupAt ?y9h ?y9F ?y9N ?y9t ?y9z ?_; (case y9h => exact rfl); (case y9F => k_asm); (case y9N => k_asm); (case y9t => assumption); (case y9z => omega)); intro D9q h9q o9q tk9q F9q N9q l9q hs9q; (try k_lt l9q))))) | (refine Stop.out (n := 12) ?_; (first | ((k_dflt (refine' sorted_set ?y9h ?y9F ?y9N ?y9m ?y9d ?_; (case y9h => exact rfl); (case y9F => k_asm); (case y9N => k_asm); (case y9m => k_mem); (case y9d => assumption)); intro D9q h9q vs9q c9q tk9q F9q N9q l9q hi9q hl9q; (try k_lt l9q)))))); k_steps)))
        rename News _ _ _ _ => N6
        refine hPR _ _ (TEndC.intro (by assumption) (fun p hp => N6 p (by repeat (first | exact hp | apply List.Mem.tail))) off ⟨rfl, ?_⟩)
        rw [List.range_succ, List.map_append, List.map_append]
        rfl
    · rintro D h tk ys nx ⟨rfl, rfl⟩ F9 N9 o1
      have o1' := o1
      simp only [LCg.Off1] at o1'
      (try dsimp only); (try k_fold)
      (k_steps; (repeat' ((first | (refine Stop.out (n := 1) ?_; (first | ((k_dflt (refine' comp_open ?y9c ?y9k ?y9n ?_ ?y9s; (case y9c => with_unfolding_all rfl); (case y9k => exact rfl); (case y9n => decide); (case y9s => (intro _; rfl))))))) | (refine Stop.out (n := 2) ?_; (first | (((rename Fr _ _ _ _ => lF'q); (with_unfolding_all refine' For_invTF lF'q ?_ ?ks; (case ks => (intro _; rfl))))))) | (refine Stop.out (n := 3) ?_; (first | (((rename Fr _ _ _ _ => F'q); (rename News _ _ _ _ => N'q); first | (with_unfolding_all refine range2_rows F'q N'q ?_) | (with_unfolding_all refine range1_rows F'q N'q ?_)); clear F'q N'q; intro h9q tk9q t9q u9q v9q R9q F9q N9q K9q))) | (refine Stop.out (n := 4) ?_; (first | (first | (k_dflt (refine' len_v ?y9N ?y9m ?y9z ?_; (case y9N => k_asm); (case y9m => k_mem); (case y9z => omega)); intro t9q tk9q) | (k_dflt (refine' len_tupAt ?y9F ?y9m ?y9z ?_; (case y9F => k_asm); (case y9m => assumption); (case y9z => omega)); intro t9q tk9q) | (k_dflt (refine' seqIn_len ?y9m ?y9z ?_; (case y9m => assumption); (case y9z => (simp; omega))); intro t9q tk9q)))) | (refine Stop.out (n := 5) ?_; (first | (first | ((with_reducible show wpAny _ _ (call (Value.ref 35) _) _ _ _); k_dflt (refine' size_use ?y9B ?y9F ?y9X ?y9T ?y9N ?y9f ?y9k ?y9d ?y9u ?y9r ?y9c ?_; (case y9B => k_asm); (case y9F => k_asm); (case y9X => k_asm); (case y9T => k_asm); (case y9N => k_asm); (case y9f => exact rfl); (case y9k => exact rfl); (case y9d => (dsimp only [Around.deeper, ar]; (refine Nat.lt_of_le_of_lt ?_ (by assumption)); simp)); (case y9u => (dsimp only [Around.deeper, ar]; (refine Nat.lt_of_le_of_lt ?_ (by assumption)); simp)); (case y9r => exact NetRead.keeps (by assumption) (Fr.keep (by k_asm))); (case y9c => omega)); intro t9q h9q tk9q F9q N9q; (try dsimp only at N9q)) | ((with_reducible show wpAny _ _ (call (Value.ref 42) _) _ _ _); k_dflt (refine' kind_and ?y9B ?y9F ?y9X ?y9T ?y9N ?y9f ?y9k ?y9d ?y9u ?y9r ?y9s ?y9z ?y9h ?y9x ?_; (case y9B => k_asm); (case y9F => k_asm); (case y9X => k_asm); (case y9T => k_asm); (case y9N => k_asm); (case y9f => exact rfl); (case y9k => exact rfl); (case y9d => (dsimp only [Around.deeper, ar]; (refine Nat.lt_of_le_of_lt ?_ (by assumption)); simp)); (case y9u => (dsimp only [Around.deeper, ar]; (refine Nat.lt_of_le_of_lt ?_ (by assumption)); simp)); (case y9r => assumption); (case y9s => assumption); (case y9z => omega); (case y9h => first | assumption | exact Has.neg (by assumption)); (case y9x => first | assumption | (rw [ab_neg]; assumption))); intro t9q h9q tk9q F9q N9q; (try dsimp only at N9q)) | ((with_reducible show wpAny _ _ (call (Value.ref 49) _) _ _ _); k_dflt (refine' parts_at ?y9B ?y9F ?y9X ?y9T ?y9N ?y9f ?y9k ?y9d ?y9u ?y9r ?y9s ?y9z ?y9h ?y9x ?_; (case y9B => k_asm); (case y9F => k_asm); (case y9X => k_asm); (case y9T => k_asm); (case y9N => k_asm); (case y9f => exact rfl); (case y9k => exact rfl); (case y9d => (dsimp only [Around.deeper, ar]; (refine Nat.lt_of_le_of_lt ?_ (by assumption)); simp)); (case y9u => (dsimp only [Around.deeper, ar]; (refine Nat.lt_of_le_of_lt ?_ (by assumption)); simp)); (case y9r => assumption); (case y9s => assumption); (case y9z => omega); (case y9h => first | assumption | exact Has.neg (by assumption)); (case y9x => first | assumption | (rw [ab_neg]; assumption))); intro t9q h9q tk9q F9q N9q ht9q ho9q; (try dsimp only at N9q)) | ((with_reducible show wpAny _ _ (call (Value.ref 176) _) _ _ _); k_dflt (refine' truth_use ?y9B ?y9F ?y9X ?y9T ?y9N ?y9f ?y9k ?y9d ?y9u ?y9m ?y9r ?y9p ?y9t ?y9l ?y90 ?y91 ?y9w ?_; (case y9B => k_asm); (case y9F => k_asm); (case y9X => k_asm); (case y9T => k_asm); (case y9N => k_asm); (case y9f => exact rfl); (case y9k => exact rfl); (case y9d => (dsimp only [Around.deeper, ar]; (refine Nat.lt_of_le_of_lt ?_ (by assumption)); simp)); (case y9u => (dsimp only [Around.deeper, ar]; (refine Nat.lt_of_le_of_lt ?_ (by assumption)); simp)); (case y9m => k_mem); (case y9r => assumption); (case y9p => exact pool_rows (by assumption) (by assumption) (by intro pq hpq; repeat (first | exact hpq | apply List.Mem.tail))); (case y9t => omega); (case y9l => omega); (case y90 => omega); (case y91 => omega); (case y9w => omega)); intro h9q tk9q F9q N9q; (try dsimp only at N9q))))) | (refine Stop.out (n := 6) ?_; (first | (first | (k_dflt (refine' ne_tups_same ?y9F ?y9a ?y9b ?y9u ?_; (case y9F => k_asm); (case y9a => assumption); (case y9b => assumption); (case y9u => (dsimp only [Around.deeper, ar]; (refine Nat.lt_of_le_of_lt ?_ (by assumption)); simp)))) | (k_dflt (refine' ne_ints_same ?y9N ?y9a ?y9b ?y9i ?y9j ?y9e ?y9u ?_; (case y9N => k_asm); (case y9a => k_mem); (case y9b => k_mem); (case y9i => first | assumption | exact IntsAre.nil); (case y9j => first | exact IntsAre.nil | assumption); (case y9e => first | assumption | rfl); (case y9u => (dsimp only [Around.deeper, ar]; (refine Nat.lt_of_le_of_lt ?_ (by assumption)); simp))))))) | (refine Stop.out (n := 7) ?_; (first | ((k_dflt (refine' eq_ints_n ?y9N ?y9a ?y9b ?y9i ?y9j ?y9u ?_; (case y9N => k_asm); (case y9a => k_mem); (case y9b => k_mem); (case y9i => first | assumption | exact IntsAre.nil); (case y9j => first | exact IntsAre.nil | assumption); (case y9u => (dsimp only [Around.deeper, ar]; (refine Nat.lt_of_le_of_lt ?_ (by assumption)); simp))))))) | (refine Stop.out (n := 8) ?_; (first | ((k_dflt (refine' in_tups_not ?y9F ?y9N ?y9m ?y9p ?y9o ?y9t ?y9n ?y9u ?_; (case y9F => k_asm); (case y9N => k_asm); (case y9m => k_mem); (case y9p => assumption); (case y9o => assumption); (case y9t => assumption); (case y9n => assumption); (case y9u => (dsimp only [Around.deeper, ar]; (refine Nat.lt_of_le_of_lt ?_ (by assumption)); simp))))))) | (refine Stop.out (n := 9) ?_; (first | ((k_dflt (refine' append_n ?y9F ?y9N ?y9U ?y9z ?_; (case y9F => k_asm); (case y9N => k_asm); (case y9U => k_updF); (case y9z => omega)); intro h9q F9q N9q; (try dsimp only at N9q))))) | (refine Stop.out (n := 10) ?_; (first | ((k_dflt (refine' list_tupAt ?y9F ?y9N ?y9t ?y9z ?_; (case y9F => k_asm); (case y9N => k_asm); (case y9t => assumption); (case y9z => omega)); intro D9q vs9q c9q h9q F9q N9q l9q hi9q; (try k_lt l9q))))) | (refine Stop.out (n := 11) ?_; (first | ((k_dflt (refine' set_tupAt ?y9h ?y9F ?y9N ?y9t ?y9z ?_; (case y9h => exact rfl); (case y9F => k_asm); (case y9N => k_asm); (case y9t => assumption); (case y9z => omega)); intro D9q h9q o9q tk9q F9q N9q l9q hs9q; (try k_lt l9q))))) | (refine Stop.out (n := 12) ?_; (first | ((k_dflt (refine' sorted_set ?y9h ?y9F ?y9N ?y9m ?y9d ?_; (case y9h => exact rfl); (case y9F => k_asm); (case y9N => k_asm); (case y9m => k_mem); (case y9d => assumption)); intro D9q h9q vs9q c9q tk9q F9q N9q l9q hi9q hl9q; (try k_lt l9q)))))); k_steps)))
      rename News _ _ _ _ => N7
      rename _ = Data.cell (some (Value.ref _)) => hdu
      rename _ = Data.cell (some (Value.int _ _)) => hdg
      have hDW : ∀ p ∈ W9, @Ne Nat p.1 D := fun p hp => off1_mem o1 p (by repeat (first | exact hp | apply List.Mem.tail))
      have hWo : TailSub own W9 := fun p hp => by rw [hW]; exact List.mem_append_right _ hp
      have hgrow : growN c ts sn (i + 1) = ((growN c ts sn i).1 ++ [rowOf (growN c ts sn i).1 p], (growN c ts sn i).2 ++ [p]) := by rw [hp]; rfl
      refine hPT _ _ (next_end (by assumption) N7 ?hn ?ho ?ha ⟨_, _, o3', _, _, ?wrs, ?wk1, ?wsv, ?wk2, (D, ?wo) :: add, hdu, hdg, e3, ?hr, ?hpp, tail_cons (by (try dsimp only); omega) t1, tail_cons (by (try dsimp only); omega) t2, tail_cons (by (try dsimp only); omega) t3, tail_cons (by (try dsimp only); omega) t4, tail_cons (by (try dsimp only); omega) t5, (by with_unfolding_all rfl), (by with_unfolding_all rfl)⟩)
      case hn => exact sub_cons (by k_mem) (sub_cons (by k_mem) (sub_cons (by k_mem) (sub_cons (by k_mem) (sub_cons (by k_mem) (sub_cons (by k_mem) (fun p hp => by repeat (first | exact hWs p hp | apply List.Mem.tail)))))))
      case ho => exact fun p hp => by repeat (first | exact hWo p hp | apply List.Mem.tail)
      case ha =>
        intro q hq b hb
        simp only [List.map_cons, List.mem_cons] at hb
        rcases hb with rfl | rfl | rfl | rfl | rfl | rfl | hb
        · exact hoff q hq _ (by simp)
        · exact hoff q hq _ (by simp)
        · exact hoff q hq _ (by simp)
        · exact hoff q hq _ (by simp)
        · exact hoff q hq _ (by simp)
        · exact hDW q (hWo q hq)
        · exact hoff q hq _ (by simp [hb])
      case hr =>
        rw [hgrow]
        refine RowsP.append (hrs'.mono fun p hp => List.mem_cons_of_mem _ hp) ?_
        have e : rowOf (growN c ts sn i).1 p = (List.range R).map fun r => decide ((p.filter fun x => !truthF (growN c ts sn i).1 x r) = []) := by
          unfold rowOf; rw [hT 1 (Nat.le_refl _) (by omega)]
        rw [e]
        exact .cons (List.mem_append_left _ (.head _)) .nil
      case hpp => rw [hgrow]; exact PartsAre.append hsv' (parts_one (by assumption))
  · rintro m₁ nx h tk ⟨o1', o2', o3', v1, v2, rs', k1', sv', k2', add, e1, e2, e3, hrs', hsv', t1, t2, t3, t4, t5, em1, em2⟩ F₁ N₁
    (k_steps; (repeat' ((first | (refine Stop.out (n := 1) ?_; (first | ((k_dflt (refine' comp_open ?y9c ?y9k ?y9n ?_ ?y9s; (case y9c => with_unfolding_all rfl); (case y9k => exact rfl); (case y9n => decide); (case y9s => (intro _; rfl))))))) | (refine Stop.out (n := 2) ?_; (first | (((rename Fr _ _ _ _ => lF'q); (with_unfolding_all refine' For_invTF lF'q ?_ ?ks; (case ks => (intro _; rfl))))))) | (refine Stop.out (n := 3) ?_; (first | (((rename Fr _ _ _ _ => F'q); (rename News _ _ _ _ => N'q); first | (with_unfolding_all refine range2_rows F'q N'q ?_) | (with_unfolding_all refine range1_rows F'q N'q ?_)); clear F'q N'q; intro h9q tk9q t9q u9q v9q R9q F9q N9q K9q))) | (refine Stop.out (n := 4) ?_; (first | (first | (k_dflt (refine' len_v ?y9N ?y9m ?y9z ?_; (case y9N => k_asm); (case y9m => k_mem); (case y9z => omega)); intro t9q tk9q) | (k_dflt (refine' len_tupAt ?y9F ?y9m ?y9z ?_; (case y9F => k_asm); (case y9m => assumption); (case y9z => omega)); intro t9q tk9q) | (k_dflt (refine' seqIn_len ?y9m ?y9z ?_; (case y9m => assumption); (case y9z => (simp; omega))); intro t9q tk9q)))) | (refine Stop.out (n := 5) ?_; (first | (first | ((with_reducible show wpAny _ _ (call (Value.ref 35) _) _ _ _); k_dflt (refine' size_use ?y9B ?y9F ?y9X ?y9T ?y9N ?y9f ?y9k ?y9d ?y9u ?y9r ?y9c ?_; (case y9B => k_asm); (case y9F => k_asm); (case y9X => k_asm); (case y9T => k_asm); (case y9N => k_asm); (case y9f => exact rfl); (case y9k => exact rfl); (case y9d => (dsimp only [Around.deeper, ar]; (refine Nat.lt_of_le_of_lt ?_ (by assumption)); simp)); (case y9u => (dsimp only [Around.deeper, ar]; (refine Nat.lt_of_le_of_lt ?_ (by assumption)); simp)); (case y9r => exact NetRead.keeps (by assumption) (Fr.keep (by k_asm))); (case y9c => omega)); intro t9q h9q tk9q F9q N9q; (try dsimp only at N9q)) | ((with_reducible show wpAny _ _ (call (Value.ref 42) _) _ _ _); k_dflt (refine' kind_and ?y9B ?y9F ?y9X ?y9T ?y9N ?y9f ?y9k ?y9d ?y9u ?y9r ?y9s ?y9z ?y9h ?y9x ?_; (case y9B => k_asm); (case y9F => k_asm); (case y9X => k_asm); (case y9T => k_asm); (case y9N => k_asm); (case y9f => exact rfl); (case y9k => exact rfl); (case y9d => (dsimp only [Around.deeper, ar]; (refine Nat.lt_of_le_of_lt ?_ (by assumption)); simp)); (case y9u => (dsimp only [Around.deeper, ar]; (refine Nat.lt_of_le_of_lt ?_ (by assumption)); simp)); (case y9r => assumption); (case y9s => assumption); (case y9z => omega); (case y9h => first | assumption | exact Has.neg (by assumption)); (case y9x => first | assumption | (rw [ab_neg]; assumption))); intro t9q h9q tk9q F9q N9q; (try dsimp only at N9q)) | ((with_reducible show wpAny _ _ (call (Value.ref 49) _) _ _ _); k_dflt (refine' parts_at ?y9B ?y9F ?y9X ?y9T ?y9N ?y9f ?y9k ?y9d ?y9u ?y9r ?y9s ?y9z ?y9h ?y9x ?_; (case y9B => k_asm); (case y9F => k_asm); (case y9X => k_asm); (case y9T => k_asm); (case y9N => k_asm); (case y9f => exact rfl); (case y9k => exact rfl); (case y9d => (dsimp only [Around.deeper, ar]; (refine Nat.lt_of_le_of_lt ?_ (by assumption)); simp)); (case y9u => (dsimp only [Around.deeper, ar]; (refine Nat.lt_of_le_of_lt ?_ (by assumption)); simp)); (case y9r => assumption); (case y9s => assumption); (case y9z => omega); (case y9h => first | assumption | exact Has.neg (by assumption)); (case y9x => first | assumption | (rw [ab_neg]; assumption))); intro t9q h9q tk9q F9q N9q ht9q ho9q; (try dsimp only at N9q)) | ((with_reducible show wpAny _ _ (call (Value.ref 176) _) _ _ _); k_dflt (refine' truth_use ?y9B ?y9F ?y9X ?y9T ?y9N ?y9f ?y9k ?y9d ?y9u ?y9m ?y9r ?y9p ?y9t ?y9l ?y90 ?y91 ?y9w ?_; (case y9B => k_asm); (case y9F => k_asm); (case y9X => k_asm); (case y9T => k_asm); (case y9N => k_asm); (case y9f => exact rfl); (case y9k => exact rfl); (case y9d => (dsimp only [Around.deeper, ar]; (refine Nat.lt_of_le_of_lt ?_ (by assumption)); simp)); (case y9u => (dsimp only [Around.deeper, ar]; (refine Nat.lt_of_le_of_lt ?_ (by assumption)); simp)); (case y9m => k_mem); (case y9r => assumption); (case y9p => exact pool_rows (by assumption) (by assumption) (by intro pq hpq; repeat (first | exact hpq | apply List.Mem.tail))); (case y9t => omega); (case y9l => omega); (case y90 => omega); (case y91 => omega); (case y9w => omega)); intro h9q tk9q F9q N9q; (try dsimp only at N9q))))) | (refine Stop.out (n := 6) ?_; (first | (first | (k_dflt (refine' ne_tups_same ?y9F ?y9a ?y9b ?y9u ?_; (case y9F => k_asm); (case y9a => assumption); (case y9b => assumption); (case y9u => (dsimp only [Around.deeper, ar]; (refine Nat.lt_of_le_of_lt ?_ (by assumption)); simp)))) | (k_dflt (refine' ne_ints_same ?y9N ?y9a ?y9b ?y9i ?y9j ?y9e ?y9u ?_; (case y9N => k_asm); (case y9a => k_mem); (case y9b => k_mem); (case y9i => first | assumption | exact IntsAre.nil); (case y9j => first | exact IntsAre.nil | assumption); (case y9e => first | assumption | rfl); (case y9u => (dsimp only [Around.deeper, ar]; (refine Nat.lt_of_le_of_lt ?_ (by assumption)); simp))))))) | (refine Stop.out (n := 7) ?_; (first | ((k_dflt (refine' eq_ints_n ?y9N ?y9a ?y9b ?y9i ?y9j ?y9u ?_; (case y9N => k_asm); (case y9a => k_mem); (case y9b => k_mem); (case y9i => first | assumption | exact IntsAre.nil); (case y9j => first | exact IntsAre.nil | assumption); (case y9u => (dsimp only [Around.deeper, ar]; (refine Nat.lt_of_le_of_lt ?_ (by assumption)); simp))))))) | (refine Stop.out (n := 8) ?_; (first | ((k_dflt (refine' in_tups_not ?y9F ?y9N ?y9m ?y9p ?y9o ?y9t ?y9n ?y9u ?_; (case y9F => k_asm); (case y9N => k_asm); (case y9m => k_mem); (case y9p => assumption); (case y9o => assumption); (case y9t => assumption); (case y9n => assumption); (case y9u => (dsimp only [Around.deeper, ar]; (refine Nat.lt_of_le_of_lt ?_ (by assumption)); simp))))))) | (refine Stop.out (n := 9) ?_; (first | ((k_dflt (refine' append_n ?y9F ?y9N ?y9U ?y9z ?_; (case y9F => k_asm); (case y9N => k_asm); (case y9U => k_updF); (case y9z => omega)); intro h9q F9q N9q; (try dsimp only at N9q))))) | (refine Stop.out (n := 10) ?_; (first | ((k_dflt (refine' list_tupAt ?y9F ?y9N ?y9t ?y9z ?_; (case y9F => k_asm); (case y9N => k_asm); (case y9t => assumption); (case y9z => omega)); intro D9q vs9q c9q h9q F9q N9q l9q hi9q; (try k_lt l9q))))) | (refine Stop.out (n := 11) ?_; (first | ((k_dflt (refine' set_tupAt ?y9h ?y9F ?y9N ?y9t ?y9z ?_; (case y9h => exact rfl); (case y9F => k_asm); (case y9N => k_asm); (case y9t => assumption); (case y9z => omega)); intro D9q h9q o9q tk9q F9q N9q l9q hs9q; (try k_lt l9q))))) | (refine Stop.out (n := 12) ?_; (first | ((k_dflt (refine' sorted_set ?y9h ?y9F ?y9N ?y9m ?y9d ?_; (case y9h => exact rfl); (case y9F => k_asm); (case y9N => k_asm); (case y9m => k_mem); (case y9d => assumption)); intro D9q h9q vs9q c9q tk9q F9q N9q l9q hi9q hl9q; (try k_lt l9q)))))); k_steps)))
    (try dsimp only)
    exact hQ _ _ _ (Fr.keep F₁) ⟨rfl, add, rs', k1', sv', k2', N₁.get (.head _), hrs', N₁.get (.tail _ (.head _)), hsv', fun p hp => ⟨(N₁ p (.tail _ (.tail _ (.tail _ (.tail _ (.tail _ hp)))))).1, (N₁ p (.tail _ (.tail _ (.tail _ (.tail _ (.tail _ hp)))))).2.2, t1 p hp, t2 p hp⟩⟩
end
end Mine
end
-- text D14
section
open PySem PySem.W PySem.Calls PyProof.Rows
set_option Elab.async false
set_option maxRecDepth 100000
set_option maxHeartbeats 8000000
set_option linter.unusedVariables false
namespace Mine
local macro_rules | `(tactic| walk_at "p0") => `(tactic| skip)
local macro_rules | `(tactic| walk_at "p1") => `(tactic| skip)
local macro_rules | `(tactic| walk_at "p2") => `(tactic| skip)
local macro_rules | `(tactic| walk_at "p3") => `(tactic| skip)
theorem D14_fill (w : World) : (hd.heap_39 w.params = hd.heap_39 w.params ∧ PySem.Challenge.rw_nu0265_01 = PySem.Challenge.rw_nu0265_01) := by
  k_fill
  exact ⟨rfl, rfl⟩
noncomputable def settledF (c : Circ) (k : Int) (ns : List Int) (gg : Int) : Circ × Bool :=
  if k = 0 then (c, joinedF c ns gg) else if k = 2 then (c, joinedF c ns gg)
  else if k = 1 then (c, joinedF c (ns.map fun x => 0 - x) (0 - gg)) else if k = 3 then (c, joinedF c (ns.map fun x => 0 - x) (0 - gg))
  else if k = 4 then (c, joinedF c [ns.getD 0 0, (ns.map fun x => 0 - x).getD 1 0] (0 - gg))
  else if k = 7 then
    ((implies (implies c (ns.getD 0 0) (ns.getD 1 0)).1 ((ns.map fun x => 0 - x).getD 0 0) (ns.getD 2 0)).1, joinedF (implies (implies c (ns.getD 0 0) (ns.getD 1 0)).1 ((ns.map fun x => 0 - x).getD 0 0) (ns.getD 2 0)).1 [(implies c (ns.getD 0 0) (ns.getD 1 0)).2, (implies (implies c (ns.getD 0 0) (ns.getD 1 0)).1 ((ns.map fun x => 0 - x).getD 0 0) (ns.getD 2 0)).2] gg)
  else
    ((implies (implies c (ns.getD 0 0) (ns.getD 1 0)).1 (ns.getD 1 0) (ns.getD 0 0)).1, joinedF (implies (implies c (ns.getD 0 0) (ns.getD 1 0)).1 (ns.getD 1 0) (ns.getD 0 0)).1 [(implies c (ns.getD 0 0) (ns.getD 1 0)).2, (implies (implies c (ns.getD 0 0) (ns.getD 1 0)).1 (ns.getD 1 0) (ns.getD 0 0)).2] (if k = 6 then 0 - gg else gg))
local macro_rules | `(tactic| walk_at "call ref") => `(tactic| ((fail_if_success (with_reducible show wpAny _ _ (call (Value.ref 120) _) _ _ _)); refine Mine.Stop.mk ?_))
local macro_rules | `(tactic| walk_at "eval ListComp") => `(tactic| refine Stop.to 1 ?_)
local macro_rules | `(tactic| walk_at "pyIter ref") => `(tactic| refine Stop.mk ?_)
local macro_rules | `(tactic| walk_at "exec Assign cons ListComp") => `(tactic| refine Stop.to 2 ?_)
section
variable (w : World) (mean : ExcName → Option Value) (mg mb : Str → Option Value) (a : NA) (tl : List (Addr × Obj)) (c : Circ)
theorem settled_ctr (n : Nat) (hs : Small c n) (hz : n ≤ 860) (kind : Int) (tk₀ : Tok) (h0 : 0 ≤ kind) (h8 : kind < 8) (ga : Addr) (gg : Int) (tg : Tok) (vs : List Value) (ns : List Int) (hi : IntsAre vs ns) (hn : ns.length ≤ 3) (h2 : 2 ≤ kind → 2 ≤ ns.length) (h7 : kind = 7 → 3 ≤ ns.length) (hH : Has c gg) (hb : ∀ x ∈ ns, -1000 ≤ x ∧ x ≤ 1000) :
  Ctr w mean mg mb 162 8 300 [.ref a.net, .int kind tk₀, .ref ga, .int gg tg] (fun g h => NetPre w g h a tl c ∧ g.IsList ga (List.toArray vs))
    (fun g v _ h' => v = .bool (settledF c kind ns gg).2 ∧ NetPost w g h' a tl (settledF c kind ns gg).1) := by
  rintro dp un gd fr base g s Q E C hd hu ⟨⟨hG, ⟨ok, op, od, g1, g2, g3, hO⟩, f1, f2, f3, hpool⟩, hP₀⟩ hQ
  obtain ⟨hinst, ⟨x1, x2, x3, x4, x5, x6, x7, hdict⟩, n1, n2, n3, lo⟩ := id hG
  have X := C.X
  have T := C.T
  have B := C.B
  have hP := Pool.start (a := a) hpool
  refine wpAny_call ?_
  k_dflt (refine' enter C ?k6 ?k7 ?k8 ?k9 ?kB ?_ ?c2 ?c3 ?c4 ?c5; (case k6 => k_is); (case k7 => k_is); (case k8 => omega); (case k9 => exact BindsTo.of_eq rfl); (case kB => exact locs rfl); (case c2 => exact rfl); (case c3 => exact rfl); (case c4 => exact rfl); (case c5 => decide))
  intro h₁ F K₁
  have N := news3 K₁ g1 g2 g3 f1 f2 f3
  (try dsimp only)
  (try k_fold)
  have hlen := hi.length
  (k_steps; (repeat' ((first | (refine Stop.out (n := 1) ?_; (first | ((k_dflt (refine' comp_open ?y9c ?y9k ?y9n ?_ ?y9s; (case y9c => with_unfolding_all rfl); (case y9k => exact rfl); (case y9n => decide); (case y9s => (intro _; rfl))))))) | (refine Stop.out (n := 2) ?_; (first | ((k_dflt (refine' comp_openA ?y9w ?y9c ?y9k ?y9n ?_ ?y9s; (case y9w => with_unfolding_all rfl); (case y9c => with_unfolding_all rfl); (case y9k => exact rfl); (case y9n => decide); (case y9s => (intro _; rfl)))))))); k_steps)))
  refine Stop.out ?_
  refine comp_seq_UA (fun i ys nx => nx = [(a.ks, ok), (a.ps, op), (a.kn, od)] ∧ IntsAre ys ((ns.take i).map fun x => 0 - x)) rfl (by decide) rfl rfl rfl rfl rfl (.inl (.inl hP₀)) (by rw [sizeLine_eq]; omega) F N ⟨rfl, .nil⟩ (fun _ _ _ _ => .inl (.inl hP₀)) ?_ ?_
  · rintro i v I oI C' oC D m₂ h tk E' ys nx hin hv hoC hx F9 N9 off ne ⟨rfl, hys⟩
    refine opq fun PC hPC => ?_
    obtain ⟨x, t, rfl, hxs⟩ := hi.at i v hv
    clear N F
    (try dsimp only); (try k_fold)
    (k_steps; (repeat' ((first | (refine Stop.out (n := 1) ?_; (first | ((k_dflt (refine' comp_open ?y9c ?y9k ?y9n ?_ ?y9s; (case y9c => with_unfolding_all rfl); (case y9k => exact rfl); (case y9n => decide); (case y9s => (intro _; rfl))))))) | (refine Stop.out (n := 2) ?_; (first | ((k_dflt (refine' comp_openA ?y9w ?y9c ?y9k ?y9n ?_ ?y9s; (case y9w => with_unfolding_all rfl); (case y9c => with_unfolding_all rfl); (case y9k => exact rfl); (case y9n => decide); (case y9s => (intro _; rfl)))))))); k_steps)))
    (try dsimp only)
    refine hPC _ _ (TEnd.intro F9 N9 off ⟨rfl, ?_⟩)
    rw [List.take_add_one, hxs, List.map_append]
    exact hys.append (.cons _ _ .nil)
  · rintro D h tk ys nx ⟨rfl, hys⟩ F9 N9 o1
    rw [hlen, List.take_length] at hys
    simp only [LCg.Off1, and_true] at o1
    clear N F
    (k_steps; (repeat' ((first | (refine Stop.out (n := 1) ?_; (first | ((k_dflt (refine' comp_open ?y9c ?y9k ?y9n ?_ ?y9s; (case y9c => with_unfolding_all rfl); (case y9k => exact rfl); (case y9n => decide); (case y9s => (intro _; rfl))))))) | (refine Stop.out (n := 2) ?_; (first | ((k_dflt (refine' comp_openA ?y9w ?y9c ?y9k ?y9n ?_ ?y9s; (case y9w => with_unfolding_all rfl); (case y9c => with_unfolding_all rfl); (case y9k => exact rfl); (case y9n => decide); (case y9s => (intro _; rfl)))))))); k_steps)))
    repeat' (refine Stop.out ?_; (first | ((with_reducible show wpAny _ _ (call (Value.ref 96) _) _ _ _); k_dflt (refine' implies_use ?y7B ?y7F ?y7X ?y7T ?y7N ?y7f ?y7k ?y7m1 ?y7m2 ?y7m3 ?y7U ?y7O ?y7po ?y7d ?y7u ?y7hs ?y7hz ?y7G ?_; (case y7B => k_asm); (case y7F => k_asm); (case y7X => k_asm); (case y7T => k_asm); (case y7N => k_asm); (case y7f => exact rfl); (case y7k => exact rfl); (case y7m1 => k_mem); (case y7m2 => k_mem); (case y7m3 => k_mem); (case y7U => (repeat' (first | refine' UpdT.one ?_ | refine' UpdT.two ?_ | refine' UpdT.three ?_ | (refine' UpdT.skip ?y8a ?y8b ?y8c ?_; (case y8a => ((try dsimp only); omega)); (case y8b => ((try dsimp only); omega)); (case y8c => ((try dsimp only); omega))) | exact UpdT.tail))); (case y7O => assumption); (case y7po => assumption); (case y7d => (dsimp only [Around.deeper, ar]; (refine Nat.lt_of_le_of_lt ?_ (by assumption)); simp)); (case y7u => (dsimp only [Around.deeper, ar]; (refine Nat.lt_of_le_of_lt ?_ (by assumption)); simp)); (case y7hs => assumption); (case y7hz => omega); (case y7G => (intro g₂ st kp; exact NetG.keeps (by assumption) st))); intro t9 h9 tk9 ok9 op9 od9 add9 F9 N9 O9 P9 S9 ne9; (try dsimp only at N9)) | ((with_reducible show wpAny _ _ (call (Value.ref 157) _) _ _ _); k_dflt (refine' joined_use ?y9B ?y9F ?y9X ?y9T ?y9N ?y9f ?y9k ?y9d ?y9u ?y9r ?y9l ?y9i ?y9n ?y9s ?y9z ?y9h ?_; (case y9B => k_asm); (case y9F => k_asm); (case y9X => k_asm); (case y9T => k_asm); (case y9N => k_asm); (case y9f => exact rfl); (case y9k => exact rfl); (case y9d => (dsimp only [Around.deeper, ar]; (refine Nat.lt_of_le_of_lt ?_ (by assumption)); simp)); (case y9u => (dsimp only [Around.deeper, ar]; (refine Nat.lt_of_le_of_lt ?_ (by assumption)); simp)); (case y9r => exact netRead_of (by k_asm) (by k_asm) (by k_mem) (by k_mem) (by k_mem) (by assumption) (by assumption) (by intro p hp; repeat (first | exact hp | apply List.Mem.tail)) (by assumption)); (case y9l => first | exact ⟨_, News.get (by k_asm) (by k_mem), rfl, _, rfl⟩ | exact list_keeps (by assumption) (Fr.keep (by k_asm))); (case y9i => first | assumption | exact IntsAre.cons _ _ (IntsAre.cons _ _ IntsAre.nil)); (case y9n => first | omega | (simp; try omega)); (case y9s => assumption); (case y9z => omega); (case y9h => first | assumption | exact Has.neg (by assumption) | exact Has.implies (Has.implies (by assumption) _ _) _ _ | exact Has.neg (Has.implies (Has.implies (by assumption) _ _) _ _))); intro h9 tk9 F9 N9 st9; (try dsimp only at N9)) | fail "no line"); (k_steps; (repeat' ((first | (refine Stop.out (n := 1) ?_; (first | ((k_dflt (refine' comp_open ?y9c ?y9k ?y9n ?_ ?y9s; (case y9c => with_unfolding_all rfl); (case y9k => exact rfl); (case y9n => decide); (case y9s => (intro _; rfl))))))) | (refine Stop.out (n := 2) ?_; (first | ((k_dflt (refine' comp_openA ?y9w ?y9c ?y9k ?y9n ?_ ?y9s; (case y9w => with_unfolding_all rfl); (case y9c => with_unfolding_all rfl); (case y9k => exact rfl); (case y9n => decide); (case y9s => (intro _; rfl)))))))); k_steps))))
    all_goals (
      (try dsimp only)
      unfold settledF at hQ
      repeat (first | rw [if_pos (by assumption)] at hQ | rw [if_neg (by assumption)] at hQ)
      first | (exfalso; omega) | exact hQ _ _ _ (Fr.keep (by assumption)) ⟨rfl, net_end (by assumption) (by k_mem) (by k_mem) (by k_mem) (by assumption) (by assumption) (by simp) (by intro p hp; repeat (first | exact hp | apply List.Mem.tail))⟩)
end
end Mine
end
-- text D1
section
open PySem PySem.W PySem.Calls PyProof.Rows
set_option Elab.async false
set_option maxRecDepth 100000
set_option maxHeartbeats 8000000
set_option linter.unusedVariables false
namespace Mine
theorem fill1 (w : World) : (hd.heap_39 w.params = hd.heap_39 w.params ∧ PySem.Challenge.rw_nu0265_01 = PySem.Challenge.rw_nu0265_01) := by
  k_fill
  exact ⟨rfl, rfl⟩
theorem draw_ctr (w : World) (mean : ExcName → Option Value) (mg mb : Str → Option Value) (d c : Addr) (t6 : Tok) (k b many : Int) (vs : List Value) (ns : List Int)
   (hk : 0 ≤ k) (hk' : k ≤ 1000) (hb : 0 ≤ b) (hb' : b ≤ 100000) (hm : 1 ≤ many) (hm' : many ≤ 1000) (hlen : ns.length ≤ 63) (hi : IntsAre vs ns) :
  Ctr w mean mg mb 131 2 10 [.ref d, .int many t6]
   (fun g h => (∃ o, h.get? d = some o ∧ FeedObj w c b k o) ∧ g.get? d = none ∧ g.IsList c vs.toArray)
   (fun _g v _h h' => (∃ t, v = .int (drawV ns b k many) t) ∧ ∃ o', h'.get? d = some o' ∧ FeedObj w c b (k + 1) o') := by
  intro dp un gd fr base g s Q E C hd hu ⟨⟨o, hp1, t3, t5, ho⟩, hp2, hp3⟩ hQ
  have X := C.X
  have T := C.T
  have B := C.B
  refine wpAny_call ?_
  k_dflt (refine' enter C ?k6 ?k7 ?k8 ?k9 ?kB ?_ ?c2 ?c3 ?c4 ?c5; (case k6 => k_is); (case k7 => k_is); (case k8 => omega); (case k9 => exact BindsTo.of_eq rfl); (case kB => exact locs rfl); (case c2 => exact rfl); (case c3 => exact rfl); (case c4 => exact rfl); (case c5 => decide))
  intro h₁ F K₁
  have N : News g s.heap.objs.size h₁ [(d, o)] := by
    intro p hp
    rw [List.mem_singleton.mp hp]
    exact ⟨K₁ _ _ hp1, Nat.ne_of_lt (Heap.lt_size hp1), hp2⟩
  (try dsimp only)
  (try k_fold)
  k_steps
  · have hF : k < (ns.length : Int) := by assumption
    dsimp only
    refine hQ _ _ _ (Fr.keep (by assumption)) ⟨⟨_, by unfold drawV; rw [if_pos hF]⟩, _, (News.get (by assumption) (List.mem_singleton.mpr rfl)), _, _, (by assumption)⟩
  · have hF : ¬ k < (ns.length : Int) := by assumption
    dsimp only
    refine hQ _ _ _ (Fr.keep (by assumption)) ⟨⟨_, by unfold drawV; rw [if_neg hF]⟩, _, (News.get (by assumption) (List.mem_singleton.mpr rfl)), _, _, (by assumption)⟩
theorem draw_use {w : World} {mean : ExcName → Option Value} {mg mb : Str → Option Value} {A₀ : Around} {base g : Heap} {fr : List Env} {env : Env} {L : Addr} {m : Str → Option Value} {news : List (Addr × Obj)} {gf : Obj → List (Addr × Obj)} {o : Obj} {s : Shared}
   {dp un : Nat} {gd : Option (List Code)} {Q E : Value → Shared → Prop} {d c : Addr} {t6 : Tok} {k b many : Int} {vs : List Value} {ns : List Int}
   (B : Below A₀ base fr g) (F : Fr g L s.heap m) (X : (hd.heap_39 w.params).In g) (T : TT mean mg mb g) (N : News g L s.heap news) (hf : env.frame = some L) (hke : env.scope.kind = .function)
   (U : UpdF d o news gf) (ho : FeedObj w c b k o) (hc : g.IsList c vs.toArray) (hi : IntsAre vs ns) (hlen : ns.length ≤ 63) (hb : 0 ≤ b) (hb' : b ≤ 100000) (hk : 0 ≤ k) (hk' : k ≤ 1000) (hm : 1 ≤ many) (hm' : many ≤ 1000)
   (hd' : dp + 2 < recursionLimit) (hu : un + 10 < cLine)
   (kk : ∀ x t h' o' tk', x = drawV ns b k many → 0 ≤ x → x < many → Fr g L h' m → News g L h' (gf o') → FeedObj w c b (k + 1) o' → Q (.int x t) { s with heap := h', toks := tk' }) :
   wpAny (model PG w) (ar dp un gd (env :: fr)) (call (.ref 131) [.ref d, .int many t6]) Q E s :=
  use1 (P := FeedObj w c b (k + 1)) (P₁ := FeedObj w c b k) (P₀ := fun g => g.IsList c vs.toArray) (PV := fun _ v _ => ∃ t, v = .int (drawV ns b k many) t) (draw_ctr w mean mg mb d c t6 k b many vs ns hk hk' hb hb' hm hm' hlen hi)
    B F X T N hf hke U hd' hu ho (fun g₂ st _ => let ⟨o, ho, r⟩ := hc; ⟨o, st _ _ ho, r⟩) fun v h' o' tk' F' N' _ hv ho' => by
      obtain ⟨t, rfl⟩ := hv
      exact kk _ t h' o' tk' rfl (drawV_lt (by omega)).1 (drawV_lt (by omega)).2 F' N' ho'
end Mine
end
-- text D2
section
open PySem PySem.W PySem.Calls PyProof.Rows
set_option Elab.async false
set_option maxRecDepth 100000
set_option maxHeartbeats 8000000
set_option linter.unusedVariables false
namespace Mine
local macro_rules | `(tactic| walk_at "p0") => `(tactic| skip)
local macro_rules | `(tactic| walk_at "p1") => `(tactic| skip)
local macro_rules | `(tactic| walk_at "p2") => `(tactic| skip)
local macro_rules | `(tactic| walk_at "p3") => `(tactic| skip)
local macro_rules | `(tactic| walk_at "p4") => `(tactic| skip)
local macro_rules | `(tactic| walk_at "p5") => `(tactic| skip)
theorem fill2 (w : World) : (hd.heap_39 w.params = hd.heap_39 w.params ∧ PySem.Challenge.rw_nu0265_01 = PySem.Challenge.rw_nu0265_01) := by
  k_fill
  exact ⟨rfl, rfl⟩
local macro_rules | `(tactic| walk_at "pyIter ref") => `(tactic| refine Stop.mk ?_)
local macro_rules | `(tactic| walk_at "call type:range") => `(tactic| refine Stop.to 1 ?_)
local macro_rules | `(tactic| walk_at "call ref") => `(tactic| refine Stop.to 2 ?_)
theorem gates_ctr (w : World) (mean : ExcName → Option Value) (mg mb : Str → Option Value) (d c sm : Addr) (t6 : Tok) (k b : Int) (many : Nat) (vs svs : List Value) (ns sns : List Int)
   (hk : 0 ≤ k) (hk' : k + 2 * many ≤ 900) (hm' : many ≤ 3) (hlen : ns.length ≤ 63) (hi : IntsAre vs ns) (hs1 : 1 ≤ sns.length) (hs2 : sns.length ≤ 900) (hsi : IntsAre svs sns) (hb : 0 ≤ b) (hb' : b ≤ 100000) :
  Ctr w mean mg mb 138 5 40 [.ref d, .ref sm, .int many t6]
   (fun g h => (∃ o, h.get? d = some o ∧ FeedObj w c b k o) ∧ g.get? d = none ∧ g.IsList c vs.toArray ∧ g.IsList sm svs.toArray)
   (fun g v _ h' => (∃ fl ws n', v = .ref fl ∧ h'.get? fl = some (listOf (List.toArray ws) n') ∧ IntsAre ws (gatesV ns b sns k many) ∧ g.get? fl = none ∧ fl ≠ d) ∧ ∃ o', h'.get? d = some o' ∧ FeedObj w c b (k + 2 * many) o') := by
  intro dp un gd fr base g s Q E C hd hu ⟨⟨o, hp1, ho⟩, hp2, hp3, hp4⟩ hQ
  have X := C.X
  have T := C.T
  have B := C.B
  refine wpAny_call ?_
  k_dflt (refine' enter C ?k6 ?k7 ?k8 ?k9 ?kB ?_ ?c2 ?c3 ?c4 ?c5; (case k6 => k_is); (case k7 => k_is); (case k8 => omega); (case k9 => exact BindsTo.of_eq rfl); (case kB => exact locs rfl); (case c2 => exact rfl); (case c3 => exact rfl); (case c4 => exact rfl); (case c5 => decide))
  intro h₁ F K₁
  have N : News g s.heap.objs.size h₁ [(d, o)] := by
    intro p hp
    rw [List.mem_singleton.mp hp]
    exact ⟨K₁ _ _ hp1, Nat.ne_of_lt (Heap.lt_size hp1), hp2⟩
  (try dsimp only)
  (try k_fold)
  (k_steps; (repeat' ((first | (refine Stop.out (n := 1) ?_; (first | (((rename Fr _ _ _ _ => F'q); (rename News _ _ _ _ => N'q); (with_unfolding_all refine range1_rows F'q N'q ?_); clear F'q N'q; intro h9q tk9q t9q u9q v9q R9q F9q N9q K9q)))) | (refine Stop.out (n := 2) ?_; (first | (((with_reducible show wpAny _ _ (call (Value.ref 131) _) _ _ _); (refine' draw_use ?B ?F ?X ?T ?N ?f ?k ?U ?ho ?hc ?hi ?hl ?b1 ?b2 ?k1 ?k2 ?m1 ?m2 ?d ?u ?_; (case B => k_asm); (case F => k_asm); (case X => k_asm); (case T => k_asm); (case N => k_asm); (case f => exact rfl); (case k => exact rfl); (case U => k_updF); (case ho => assumption); (case hc => assumption); (case hi => assumption); (case hl => assumption); (case b1 => omega); (case b2 => omega); (case k1 => omega); (case k2 => omega); (case m1 => omega); (case m2 => omega); (case d => (dsimp only; omega)); (case u => (dsimp only; omega))); intro x'q t'q h'q o'q tk'q ex'q x0'q x1'q F'q N'q hd'q; (try dsimp only at N'q)))))); k_steps)))
  refine Stop.out ?_

  rename_i fl hA lt hB
  refine for_range (n := many) (fun i m nx => ∃ o' ws n', nx = [(fl, listOf (List.toArray ws) n'), (d, o')] ∧ FeedObj w c b (k + 2 * (i : Int)) o' ∧ IntsAre ws (gatesV ns b sns k i) ∧ m "found" = some (.ref fl) ∧ m "feed" = some (.ref d) ∧ m "some" = some (.ref sm)) rfl R9q (small_one (by omega) (by omega) (by omega) (by omega)) (by rw [rangeSize_nat]; omega) F9q N9q ?_ ?_ ?_
  · exact ⟨o, [], 0, rfl, by simpa using ho, IntsAre.nil, rfl, rfl, rfl⟩
  · rintro i t m₁ nx h tk own hin hoff ⟨o', ws, n', rfl, ho', hws, e1, e2, e3⟩ F₁ N₁
    have F₁ := see (see (see F₁ "found" (by repeat (first | exact e1 | (rw [if_neg (by decide)])))) "feed" (by repeat (first | exact e2 | (rw [if_neg (by decide)])))) "some" (by repeat (first | exact e3 | (rw [if_neg (by decide)])))
    (try dsimp only at N₁)
    simp only [List.cons_append, List.nil_append] at N₁
    (try k_fold)
    clear F9q N9q ho C hp1 hp2 K9q R9q K₁
    have hws' : ws.length ≤ 100 := by have := hws.length; have := gatesV_length ns b sns k i; omega
    (k_steps; (repeat' ((first | (refine Stop.out (n := 1) ?_; (first | (((rename Fr _ _ _ _ => F'q); (rename News _ _ _ _ => N'q); (with_unfolding_all refine range1_rows F'q N'q ?_); clear F'q N'q; intro h9q tk9q t9q u9q v9q R9q F9q N9q K9q)))) | (refine Stop.out (n := 2) ?_; (first | (((with_reducible show wpAny _ _ (call (Value.ref 131) _) _ _ _); (refine' draw_use ?B ?F ?X ?T ?N ?f ?k ?U ?ho ?hc ?hi ?hl ?b1 ?b2 ?k1 ?k2 ?m1 ?m2 ?d ?u ?_; (case B => k_asm); (case F => k_asm); (case X => k_asm); (case T => k_asm); (case N => k_asm); (case f => exact rfl); (case k => exact rfl); (case U => k_updF); (case ho => assumption); (case hc => assumption); (case hi => assumption); (case hl => assumption); (case b1 => omega); (case b2 => omega); (case k1 => omega); (case k2 => omega); (case m1 => omega); (case m2 => omega); (case d => (dsimp only; omega)); (case u => (dsimp only; omega))); intro x'q t'q h'q o'q tk'q ex'q x0'q x1'q F'q N'q hd'q; (try dsimp only at N'q)))))); k_steps)))
    · rename_i x1 t1 h1 o1 tk1 ex1 _ _ hd1 t2 h2 tk2 hz h4 F4 N4
      try dsimp only
      refine inv_end (nx := [(fl, listOf (List.toArray (ws ++ [_])) (n' + 1)), (d, o'q)]) F4 (by rw [← List.push_toArray]; exact N4) hoff ⟨o'q, _, _, rfl, ?_, ?_, ?_, ?_, ?_⟩
      · have e : k + 2 * ((i + 1 : Nat) : Int) = k + 2 * (i : Int) + 1 + 1 := by omega
        rw [e]; exact hd'q
      · rw [gatesV]
        refine IntsAre.append hws ?_
        have e : gateV ns b sns (k + 2 * (i : Int)) = sns.getD x1.toNat 0 := by
          unfold gateV; rw [← ex1, ← ex'q, if_pos hz]
        rw [e]; exact .cons _ _ .nil
      all_goals with_unfolding_all rfl
    · rename_i x1 t1 h1 o1 tk1 ex1 _ _ hd1 t2 h2 tk2 hz h4 F4 N4
      try dsimp only
      refine inv_end (nx := [(fl, listOf (List.toArray (ws ++ [_])) (n' + 1)), (d, o'q)]) F4 (by rw [← List.push_toArray]; exact N4) hoff ⟨o'q, _, _, rfl, ?_, ?_, ?_, ?_, ?_⟩
      · have e : k + 2 * ((i + 1 : Nat) : Int) = k + 2 * (i : Int) + 1 + 1 := by omega
        rw [e]; exact hd'q
      · rw [gatesV]
        refine IntsAre.append hws ?_
        have e : gateV ns b sns (k + 2 * (i : Int)) = 0 - sns.getD x1.toNat 0 := by
          unfold gateV; rw [← ex1, ← ex'q, if_neg hz]
        rw [e]; exact .cons _ _ .nil
      all_goals with_unfolding_all rfl
  · rintro m₁ nx h tk ⟨o', ws, n', rfl, ho', hws, e1, e2, e3⟩ F₁ N₁
    have F₁ := see F₁ "found" e1
    (try dsimp only)
    (k_steps; (repeat' ((first | (refine Stop.out (n := 1) ?_; (first | (((rename Fr _ _ _ _ => F'q); (rename News _ _ _ _ => N'q); (with_unfolding_all refine range1_rows F'q N'q ?_); clear F'q N'q; intro h9q tk9q t9q u9q v9q R9q F9q N9q K9q)))) | (refine Stop.out (n := 2) ?_; (first | (((with_reducible show wpAny _ _ (call (Value.ref 131) _) _ _ _); (refine' draw_use ?B ?F ?X ?T ?N ?f ?k ?U ?ho ?hc ?hi ?hl ?b1 ?b2 ?k1 ?k2 ?m1 ?m2 ?d ?u ?_; (case B => k_asm); (case F => k_asm); (case X => k_asm); (case T => k_asm); (case N => k_asm); (case f => exact rfl); (case k => exact rfl); (case U => k_updF); (case ho => assumption); (case hc => assumption); (case hi => assumption); (case hl => assumption); (case b1 => omega); (case b2 => omega); (case k1 => omega); (case k2 => omega); (case m1 => omega); (case m2 => omega); (case d => (dsimp only; omega)); (case u => (dsimp only; omega))); intro x'q t'q h'q o'q tk'q ex'q x0'q x1'q F'q N'q hd'q; (try dsimp only at N'q)))))); k_steps)))
    dsimp only
    exact hQ _ _ _ F₁.keep ⟨⟨fl, ws, n', rfl, N₁.get (List.Mem.head _), hws, N₁.fresh (List.Mem.head _), Nat.ne_of_gt lt⟩, o', N₁.get (.tail _ (.head _)), ho'⟩
end Mine
end
-- text D9
section
open PySem PySem.W PySem.Calls PyProof.Rows
set_option Elab.async false
set_option maxRecDepth 100000
set_option maxHeartbeats 8000000
set_option linter.unusedVariables false
namespace Mine
local macro_rules | `(tactic| walk_at "p0") => `(tactic| skip)
local macro_rules | `(tactic| walk_at "p1") => `(tactic| skip)
local macro_rules | `(tactic| walk_at "p2") => `(tactic| skip)
local macro_rules | `(tactic| walk_at "p3") => `(tactic| skip)
local macro_rules | `(tactic| walk_at "p4") => `(tactic| skip)
local macro_rules | `(tactic| walk_at "p5") => `(tactic| skip)
local macro_rules | `(tactic| walk_at "p6") => `(tactic| skip)
local macro_rules | `(tactic| walk_at "p7") => `(tactic| skip)
local macro_rules | `(tactic| walk_at "p8") => `(tactic| skip)
local macro_rules | `(tactic| walk_at "p9") => `(tactic| skip)
theorem D9_fill (w : World) : (hd.heap_39 w.params = hd.heap_39 w.params ∧ PySem.Challenge.rw_nu0265_01 = PySem.Challenge.rw_nu0265_01) := by
  k_fill
  exact ⟨rfl, rfl⟩
noncomputable def askedF (c : Circ) (k : Int) (ns : List Int) : Circ × Int :=
  if k = 0 then allOf c ns else if k = 1 then anyOf c ns else if k = 2 then both c (ns.getD 0 0) (ns.getD 1 0) else if k = 3 then either c (ns.getD 0 0) (ns.getD 1 0)
  else if k = 4 then implies c (ns.getD 0 0) (ns.getD 1 0) else if k = 5 then iffG c (ns.getD 0 0) (ns.getD 1 0) else if k = 6 then unlike c (ns.getD 0 0) (ns.getD 1 0)
  else choose c (ns.getD 0 0) (ns.getD 1 0) (ns.getD 2 0)
local macro_rules | `(tactic| walk_at "call ref") => `(tactic| ((fail_if_success (with_reducible show wpAny _ _ (call (Value.ref 120) _) _ _ _)); refine Mine.Stop.mk ?_))
section
variable (w : World) (mean : ExcName → Option Value) (mg mb : Str → Option Value) (a : NA) (tl : List (Addr × Obj)) (c : Circ)
theorem asked_ctr (n : Nat) (hs : Small c n) (hz : n ≤ 860) (kind : Int) (tk₀ : Tok) (h0 : 0 ≤ kind) (h8 : kind < 8) (ga : Addr) (vs : List Value) (ns : List Int) (hi : IntsAre vs ns) (hn : ns.length ≤ 10) (h2 : 2 ≤ kind → 2 ≤ ns.length) (h7 : kind = 7 → 3 ≤ ns.length) :
  Ctr w mean mg mb 145 12 110 [.ref a.net, .int kind tk₀, .ref ga] (fun g h => NetPre w g h a tl c ∧ g.IsList ga (List.toArray vs))
    (fun g v _ h' => (∃ t, v = .int (askedF c kind ns).2 t) ∧ NetPost w g h' a tl (askedF c kind ns).1) := by
  rintro dp un gd fr base g s Q E C hd hu ⟨⟨hG, ⟨ok, op, od, g1, g2, g3, hO⟩, f1, f2, f3, hpool⟩, hP₀⟩ hQ
  obtain ⟨hinst, ⟨x1, x2, x3, x4, x5, x6, x7, hdict⟩, n1, n2, n3, lo⟩ := id hG
  have X := C.X
  have T := C.T
  have B := C.B
  have hP := Pool.start (a := a) hpool
  refine wpAny_call ?_
  k_dflt (refine' enter C ?k6 ?k7 ?k8 ?k9 ?kB ?_ ?c2 ?c3 ?c4 ?c5; (case k6 => k_is); (case k7 => k_is); (case k8 => omega); (case k9 => exact BindsTo.of_eq rfl); (case kB => exact locs rfl); (case c2 => exact rfl); (case c3 => exact rfl); (case c4 => exact rfl); (case c5 => decide))
  intro h₁ F K₁
  have N := news3 K₁ g1 g2 g3 f1 f2 f3
  (try dsimp only)
  (try k_fold)
  k_steps
  repeat' (refine Stop.out ?_; (try k_made); (first | ((with_reducible show wpAny _ _ (call (Value.ref 70) _) _ _ _); k_dflt (refine' all_of_use ?y7B ?y7F ?y7X ?y7T ?y7N ?y7f ?y7k ?y7m1 ?y7m2 ?y7m3 ?y7U ?y7O ?y7po ?y7d ?y7u ?y7hs ?y7hz ?y7G ?y7q ?y7i ?y7n ?_; (case y7B => k_asm); (case y7F => k_asm); (case y7X => k_asm); (case y7T => k_asm); (case y7N => k_asm); (case y7f => exact rfl); (case y7k => exact rfl); (case y7m1 => k_mem); (case y7m2 => k_mem); (case y7m3 => k_mem); (case y7U => (repeat' (first | refine' UpdT.one ?_ | refine' UpdT.two ?_ | refine' UpdT.three ?_ | (refine' UpdT.skip ?y8a ?y8b ?y8c ?_; (case y8a => ((try dsimp only); omega)); (case y8b => ((try dsimp only); omega)); (case y8c => ((try dsimp only); omega))) | exact UpdT.tail))); (case y7O => assumption); (case y7po => assumption); (case y7d => (dsimp only [Around.deeper, ar]; (refine Nat.lt_of_le_of_lt ?_ (by assumption)); simp)); (case y7u => (dsimp only [Around.deeper, ar]; (refine Nat.lt_of_le_of_lt ?_ (by assumption)); simp)); (case y7hs => assumption); (case y7hz => omega); (case y7G => (intro g₂ st kp; exact NetG.keeps (by assumption) st)); (case y7q => (intro g₂ st kp; exact .inl (list_keeps (by assumption) st))); (case y7i => assumption); (case y7n => omega)); intro t9 h9 tk9 ok9 op9 od9 add9 F9 N9 O9 P9 S9 ne9; (try dsimp only at N9)) | ((with_reducible show wpAny _ _ (call (Value.ref 75) _) _ _ _); k_dflt (refine' any_of_use ?y7B ?y7F ?y7X ?y7T ?y7N ?y7f ?y7k ?y7m1 ?y7m2 ?y7m3 ?y7U ?y7O ?y7po ?y7d ?y7u ?y7hs ?y7hz ?y7G ?y7q ?y7i ?y7n ?_; (case y7B => k_asm); (case y7F => k_asm); (case y7X => k_asm); (case y7T => k_asm); (case y7N => k_asm); (case y7f => exact rfl); (case y7k => exact rfl); (case y7m1 => k_mem); (case y7m2 => k_mem); (case y7m3 => k_mem); (case y7U => (repeat' (first | refine' UpdT.one ?_ | refine' UpdT.two ?_ | refine' UpdT.three ?_ | (refine' UpdT.skip ?y8a ?y8b ?y8c ?_; (case y8a => ((try dsimp only); omega)); (case y8b => ((try dsimp only); omega)); (case y8c => ((try dsimp only); omega))) | exact UpdT.tail))); (case y7O => assumption); (case y7po => assumption); (case y7d => (dsimp only [Around.deeper, ar]; (refine Nat.lt_of_le_of_lt ?_ (by assumption)); simp)); (case y7u => (dsimp only [Around.deeper, ar]; (refine Nat.lt_of_le_of_lt ?_ (by assumption)); simp)); (case y7hs => assumption); (case y7hz => omega); (case y7G => (intro g₂ st kp; exact NetG.keeps (by assumption) st)); (case y7q => (intro g₂ st kp; first | exact list_keeps (by assumption) st)); (case y7i => assumption); (case y7n => omega)); intro t9 h9 tk9 ok9 op9 od9 add9 F9 N9 O9 P9 S9 ne9; (try dsimp only at N9)) | ((with_reducible show wpAny _ _ (call (Value.ref 82) _) _ _ _); k_dflt (refine' both_use ?y7B ?y7F ?y7X ?y7T ?y7N ?y7f ?y7k ?y7m1 ?y7m2 ?y7m3 ?y7U ?y7O ?y7po ?y7d ?y7u ?y7hs ?y7hz ?y7G ?_; (case y7B => k_asm); (case y7F => k_asm); (case y7X => k_asm); (case y7T => k_asm); (case y7N => k_asm); (case y7f => exact rfl); (case y7k => exact rfl); (case y7m1 => k_mem); (case y7m2 => k_mem); (case y7m3 => k_mem); (case y7U => (repeat' (first | refine' UpdT.one ?_ | refine' UpdT.two ?_ | refine' UpdT.three ?_ | (refine' UpdT.skip ?y8a ?y8b ?y8c ?_; (case y8a => ((try dsimp only); omega)); (case y8b => ((try dsimp only); omega)); (case y8c => ((try dsimp only); omega))) | exact UpdT.tail))); (case y7O => assumption); (case y7po => assumption); (case y7d => (dsimp only [Around.deeper, ar]; (refine Nat.lt_of_le_of_lt ?_ (by assumption)); simp)); (case y7u => (dsimp only [Around.deeper, ar]; (refine Nat.lt_of_le_of_lt ?_ (by assumption)); simp)); (case y7hs => assumption); (case y7hz => omega); (case y7G => (intro g₂ st kp; exact NetG.keeps (by assumption) st))); intro t9 h9 tk9 ok9 op9 od9 add9 F9 N9 O9 P9 S9 ne9; (try dsimp only at N9)) | ((with_reducible show wpAny _ _ (call (Value.ref 89) _) _ _ _); k_dflt (refine' either_use ?y7B ?y7F ?y7X ?y7T ?y7N ?y7f ?y7k ?y7m1 ?y7m2 ?y7m3 ?y7U ?y7O ?y7po ?y7d ?y7u ?y7hs ?y7hz ?y7G ?_; (case y7B => k_asm); (case y7F => k_asm); (case y7X => k_asm); (case y7T => k_asm); (case y7N => k_asm); (case y7f => exact rfl); (case y7k => exact rfl); (case y7m1 => k_mem); (case y7m2 => k_mem); (case y7m3 => k_mem); (case y7U => (repeat' (first | refine' UpdT.one ?_ | refine' UpdT.two ?_ | refine' UpdT.three ?_ | (refine' UpdT.skip ?y8a ?y8b ?y8c ?_; (case y8a => ((try dsimp only); omega)); (case y8b => ((try dsimp only); omega)); (case y8c => ((try dsimp only); omega))) | exact UpdT.tail))); (case y7O => assumption); (case y7po => assumption); (case y7d => (dsimp only [Around.deeper, ar]; (refine Nat.lt_of_le_of_lt ?_ (by assumption)); simp)); (case y7u => (dsimp only [Around.deeper, ar]; (refine Nat.lt_of_le_of_lt ?_ (by assumption)); simp)); (case y7hs => assumption); (case y7hz => omega); (case y7G => (intro g₂ st kp; exact NetG.keeps (by assumption) st))); intro t9 h9 tk9 ok9 op9 od9 add9 F9 N9 O9 P9 S9 ne9; (try dsimp only at N9)) | ((with_reducible show wpAny _ _ (call (Value.ref 96) _) _ _ _); k_dflt (refine' implies_use ?y7B ?y7F ?y7X ?y7T ?y7N ?y7f ?y7k ?y7m1 ?y7m2 ?y7m3 ?y7U ?y7O ?y7po ?y7d ?y7u ?y7hs ?y7hz ?y7G ?_; (case y7B => k_asm); (case y7F => k_asm); (case y7X => k_asm); (case y7T => k_asm); (case y7N => k_asm); (case y7f => exact rfl); (case y7k => exact rfl); (case y7m1 => k_mem); (case y7m2 => k_mem); (case y7m3 => k_mem); (case y7U => (repeat' (first | refine' UpdT.one ?_ | refine' UpdT.two ?_ | refine' UpdT.three ?_ | (refine' UpdT.skip ?y8a ?y8b ?y8c ?_; (case y8a => ((try dsimp only); omega)); (case y8b => ((try dsimp only); omega)); (case y8c => ((try dsimp only); omega))) | exact UpdT.tail))); (case y7O => assumption); (case y7po => assumption); (case y7d => (dsimp only [Around.deeper, ar]; (refine Nat.lt_of_le_of_lt ?_ (by assumption)); simp)); (case y7u => (dsimp only [Around.deeper, ar]; (refine Nat.lt_of_le_of_lt ?_ (by assumption)); simp)); (case y7hs => assumption); (case y7hz => omega); (case y7G => (intro g₂ st kp; exact NetG.keeps (by assumption) st))); intro t9 h9 tk9 ok9 op9 od9 add9 F9 N9 O9 P9 S9 ne9; (try dsimp only at N9)) | ((with_reducible show wpAny _ _ (call (Value.ref 103) _) _ _ _); k_dflt (refine' iff_use ?y7B ?y7F ?y7X ?y7T ?y7N ?y7f ?y7k ?y7m1 ?y7m2 ?y7m3 ?y7U ?y7O ?y7po ?y7d ?y7u ?y7hs ?y7hz ?y7G ?_; (case y7B => k_asm); (case y7F => k_asm); (case y7X => k_asm); (case y7T => k_asm); (case y7N => k_asm); (case y7f => exact rfl); (case y7k => exact rfl); (case y7m1 => k_mem); (case y7m2 => k_mem); (case y7m3 => k_mem); (case y7U => (repeat' (first | refine' UpdT.one ?_ | refine' UpdT.two ?_ | refine' UpdT.three ?_ | (refine' UpdT.skip ?y8a ?y8b ?y8c ?_; (case y8a => ((try dsimp only); omega)); (case y8b => ((try dsimp only); omega)); (case y8c => ((try dsimp only); omega))) | exact UpdT.tail))); (case y7O => assumption); (case y7po => assumption); (case y7d => (dsimp only [Around.deeper, ar]; (refine Nat.lt_of_le_of_lt ?_ (by assumption)); simp)); (case y7u => (dsimp only [Around.deeper, ar]; (refine Nat.lt_of_le_of_lt ?_ (by assumption)); simp)); (case y7hs => assumption); (case y7hz => omega); (case y7G => (intro g₂ st kp; exact NetG.keeps (by assumption) st))); intro t9 h9 tk9 ok9 op9 od9 add9 F9 N9 O9 P9 S9 ne9; (try dsimp only at N9)) | ((with_reducible show wpAny _ _ (call (Value.ref 110) _) _ _ _); k_dflt (refine' unlike_use ?y7B ?y7F ?y7X ?y7T ?y7N ?y7f ?y7k ?y7m1 ?y7m2 ?y7m3 ?y7U ?y7O ?y7po ?y7d ?y7u ?y7hs ?y7hz ?y7G ?_; (case y7B => k_asm); (case y7F => k_asm); (case y7X => k_asm); (case y7T => k_asm); (case y7N => k_asm); (case y7f => exact rfl); (case y7k => exact rfl); (case y7m1 => k_mem); (case y7m2 => k_mem); (case y7m3 => k_mem); (case y7U => (repeat' (first | refine' UpdT.one ?_ | refine' UpdT.two ?_ | refine' UpdT.three ?_ | (refine' UpdT.skip ?y8a ?y8b ?y8c ?_; (case y8a => ((try dsimp only); omega)); (case y8b => ((try dsimp only); omega)); (case y8c => ((try dsimp only); omega))) | exact UpdT.tail))); (case y7O => assumption); (case y7po => assumption); (case y7d => (dsimp only [Around.deeper, ar]; (refine Nat.lt_of_le_of_lt ?_ (by assumption)); simp)); (case y7u => (dsimp only [Around.deeper, ar]; (refine Nat.lt_of_le_of_lt ?_ (by assumption)); simp)); (case y7hs => assumption); (case y7hz => omega); (case y7G => (intro g₂ st kp; exact NetG.keeps (by assumption) st))); intro t9 h9 tk9 ok9 op9 od9 add9 F9 N9 O9 P9 S9 ne9; (try dsimp only at N9)) | ((with_reducible show wpAny _ _ (call (Value.ref 117) _) _ _ _); k_dflt (refine' choose_use ?y7B ?y7F ?y7X ?y7T ?y7N ?y7f ?y7k ?y7m1 ?y7m2 ?y7m3 ?y7U ?y7O ?y7po ?y7d ?y7u ?y7hs ?y7hz ?y7G ?_; (case y7B => k_asm); (case y7F => k_asm); (case y7X => k_asm); (case y7T => k_asm); (case y7N => k_asm); (case y7f => exact rfl); (case y7k => exact rfl); (case y7m1 => k_mem); (case y7m2 => k_mem); (case y7m3 => k_mem); (case y7U => (repeat' (first | refine' UpdT.one ?_ | refine' UpdT.two ?_ | refine' UpdT.three ?_ | (refine' UpdT.skip ?y8a ?y8b ?y8c ?_; (case y8a => ((try dsimp only); omega)); (case y8b => ((try dsimp only); omega)); (case y8c => ((try dsimp only); omega))) | exact UpdT.tail))); (case y7O => assumption); (case y7po => assumption); (case y7d => (dsimp only [Around.deeper, ar]; (refine Nat.lt_of_le_of_lt ?_ (by assumption)); simp)); (case y7u => (dsimp only [Around.deeper, ar]; (refine Nat.lt_of_le_of_lt ?_ (by assumption)); simp)); (case y7hs => assumption); (case y7hz => omega); (case y7G => (intro g₂ st kp; exact NetG.keeps (by assumption) st))); intro t9 h9 tk9 ok9 op9 od9 add9 F9 N9 O9 P9 S9 ne9; (try dsimp only at N9)) | fail "no line"); k_steps)
  all_goals (
    unfold askedF at hQ
    repeat (first | rw [if_pos (by assumption)] at hQ | rw [if_neg (by assumption)] at hQ)
    exact hQ _ _ _ (Fr.keep (by assumption)) ⟨⟨_, rfl⟩, net_end (by assumption) (by k_mem) (by k_mem) (by k_mem) (by assumption) (by assumption) (by simp) (by intro p hp; repeat (first | exact hp | apply List.Mem.tail))⟩)
end
end Mine
end
-- text LawUse
section
open PySem PySem.W PySem.Calls PyProof.Rows
set_option Elab.async false
set_option maxRecDepth 100000
set_option linter.unusedVariables false
namespace Mine
/-- the circuit and its dict, on the ledger -/
inductive NetDictN (l : List (Addr × Obj)) (a : NA) : Prop
  | mk (h1 : Int) (t1 : Tok) (h2 : Int) (t2 : Tok) (h3 : Int) (t3 : Tok) (n : Nat) (e : (a.dn, dictOf [⟨h1, .str "kinds" t1, .ref a.ks⟩, ⟨h2, .str "parts_now" t2, .ref a.ps⟩, ⟨h3, .str "known" t3, .ref a.kn⟩] n) ∈ l) : NetDictN l a
structure NetN (l : List (Addr × Obj)) (a : NA) : Prop where
  inst : (a.net, instObj 120 a.dn) ∈ l
  dict : NetDictN l a
  i3 : Ne3 a a.net
  d3 : Ne3 a a.dn
  n1 : @Ne Nat a.ks a.ps
  n2 : @Ne Nat a.ks a.kn
  n3 : @Ne Nat a.ps a.kn
  lo : (a.kn == sysModules) = false
theorem NetN.G {l : List (Addr × Obj)} {a : NA} (h : NetN l a) {g₂ : Heap} (k : ∀ p ∈ l, Ne3 a p.1 → g₂.get? p.1 = some p.2) : NetG g₂ a :=
  let ⟨x1, x2, x3, x4, x5, x6, x7, hd⟩ := h.dict
  ⟨k _ h.inst h.i3, ⟨x1, x2, x3, x4, x5, x6, x7, k _ hd h.d3⟩, h.n1, h.n2, h.n3, h.lo⟩
theorem NetN.mono {l l' : List (Addr × Obj)} {a : NA} (h : NetN l a) (s : ∀ p ∈ l, p ∈ l') : NetN l' a :=
  let ⟨x1, x2, x3, x4, x5, x6, x7, hd⟩ := h.dict
  ⟨s _ h.inst, ⟨x1, x2, x3, x4, x5, x6, x7, s _ hd⟩, h.i3, h.d3, h.n1, h.n2, h.n3, h.lo⟩

/-- the law's addresses: tables, seen, some, the feed, the cell of row -/
structure LA where
  net : NA
  tb : Addr
  sb : Addr
  so : Addr
  d : Addr
  cr : Addr
noncomputable def LA.xs (a : LA) : List Addr := [a.tb, a.sb, a.so, a.d, a.net.ks, a.net.ps, a.net.kn, a.cr]
/-- the state -/
structure LS where
  c : Circ
  ts : List (List Bool)
  sn : List (List Int)
  ss : List Int
  k : Int
noncomputable abbrev lst (a : LA) (ot os oo od ok op on orow : Obj) (W : List (Addr × Obj)) : List (Addr × Obj) :=
  (a.tb, ot) :: (a.sb, os) :: (a.so, oo) :: (a.d, od) :: (a.net.ks, ok) :: (a.net.ps, op) :: (a.net.kn, on) :: (a.cr, orow) :: W
structure Led (w : World) (a : LA) (c0 : Addr) (cvs : List Value) (b : Int) (W tl rl : List (Addr × Obj)) (st : LS) (ot os oo od ok op on : Obj) : Prop where
  tb : ∃ rs n, ot = PySem.W.listOf (List.toArray rs) n ∧ RowsP rl rs st.ts
  sb : ∃ sv n, os = PySem.W.listOf (List.toArray sv) n ∧ PartsAre tl sv st.sn
  so : ∃ vs n, oo = PySem.W.listOf (List.toArray vs) n ∧ IntsAre vs st.ss
  fd : FeedObj w c0 b st.k od
  net : NetObj w tl ok op on st.c
  off : OwnOff W a.xs
  nd : a.xs.Nodup
  tlW : ∀ p ∈ tl, p ∈ W
  rlW : ∀ p ∈ rl, p ∈ W
  nN : NetN W a.net
  cl : ∃ n, (c0, PySem.W.listOf (List.toArray cvs) n) ∈ W
section
variable {w : World} {a : LA} {c0 : Addr} {cvs : List Value} {b : Int} {W tl rl : List (Addr × Obj)} {st : LS} {ot os oo od ok op on orow : Obj}
theorem Led.more {W' : List (Addr × Obj)} (J : Led w a c0 cvs b W tl rl st ot os oo od ok op on) (s : ∀ p ∈ W, p ∈ W') (o : OwnOff W' a.xs) : Led w a c0 cvs b W' tl rl st ot os oo od ok op on :=
  { J with off := o, tlW := fun p hp => s p (J.tlW p hp), rlW := fun p hp => s p (J.rlW p hp), nN := J.nN.mono s, cl := let ⟨n, h⟩ := J.cl; ⟨n, s _ h⟩ }
theorem off_app {X Y : List (Addr × Obj)} {l : List Addr} (h : OwnOff X l) (k : OwnOff Y l) : OwnOff (X ++ Y) l := fun p hp => (List.mem_append.mp hp).elim (h p) (k p)
theorem off_cons {p : Addr × Obj} {Y : List (Addr × Obj)} {l : List Addr} (h : ∀ q ∈ l, p.1 ≠ q) (k : OwnOff Y l) : OwnOff (p :: Y) l := fun q hq => by
  rcases List.mem_cons.mp hq with rfl | hq
  · exact h
  · exact k q hq
theorem Led.own {own : List (Addr × Obj)} (J : Led w a c0 cvs b W tl rl st ot os oo od ok op on) (o : OwnOff own a.xs) : Led w a c0 cvs b (W ++ own) tl rl st ot os oo od ok op on :=
  J.more (fun _ hp => List.mem_append_left _ hp) (off_app J.off o)
theorem lst_addr (p : Addr × Obj) (hp : p ∈ lst a ot os oo od ok op on orow W) : p.1 ∈ a.xs ∨ p ∈ W := by
  simp only [lst, List.mem_cons] at hp
  rcases hp with rfl | rfl | rfl | rfl | rfl | rfl | rfl | rfl | hp
  · exact .inl (by simp [LA.xs])
  · exact .inl (by simp [LA.xs])
  · exact .inl (by simp [LA.xs])
  · exact .inl (by simp [LA.xs])
  · exact .inl (by simp [LA.xs])
  · exact .inl (by simp [LA.xs])
  · exact .inl (by simp [LA.xs])
  · exact .inl (by simp [LA.xs])
  · exact .inr hp
theorem lst_has (q : Addr) (hq : q ∈ a.xs) : ∃ o, (q, o) ∈ lst a ot os oo od ok op on orow W := by
  simp only [LA.xs, List.mem_cons, List.not_mem_nil, or_false] at hq
  rcases hq with rfl | rfl | rfl | rfl | rfl | rfl | rfl | rfl
  · exact ⟨ot, by simp [lst]⟩
  · exact ⟨os, by simp [lst]⟩
  · exact ⟨oo, by simp [lst]⟩
  · exact ⟨od, by simp [lst]⟩
  · exact ⟨ok, by simp [lst]⟩
  · exact ⟨op, by simp [lst]⟩
  · exact ⟨on, by simp [lst]⟩
  · exact ⟨orow, by simp [lst]⟩
theorem lst_W {p : Addr × Obj} (hp : p ∈ W) : p ∈ lst a ot os oo od ok op on orow W := by simp only [lst, List.mem_cons]; exact .inr (.inr (.inr (.inr (.inr (.inr (.inr (.inr hp)))))))
/-- the pairwise facts -/
structure Apart (a : LA) : Prop where
  t : @Ne Nat a.tb a.sb ∧ @Ne Nat a.tb a.so ∧ @Ne Nat a.tb a.d ∧ @Ne Nat a.tb a.net.ks ∧ @Ne Nat a.tb a.net.ps ∧ @Ne Nat a.tb a.net.kn ∧ @Ne Nat a.tb a.cr
  s : @Ne Nat a.sb a.so ∧ @Ne Nat a.sb a.d ∧ @Ne Nat a.sb a.net.ks ∧ @Ne Nat a.sb a.net.ps ∧ @Ne Nat a.sb a.net.kn ∧ @Ne Nat a.sb a.cr
  o : @Ne Nat a.so a.d ∧ @Ne Nat a.so a.net.ks ∧ @Ne Nat a.so a.net.ps ∧ @Ne Nat a.so a.net.kn ∧ @Ne Nat a.so a.cr
  d : @Ne Nat a.d a.net.ks ∧ @Ne Nat a.d a.net.ps ∧ @Ne Nat a.d a.net.kn ∧ @Ne Nat a.d a.cr
  k : @Ne Nat a.net.ks a.net.ps ∧ @Ne Nat a.net.ks a.net.kn ∧ @Ne Nat a.net.ks a.cr ∧ @Ne Nat a.net.ps a.net.kn ∧ @Ne Nat a.net.ps a.cr ∧ @Ne Nat a.net.kn a.cr
theorem apart (h : a.xs.Nodup) : Apart a := by
  simp only [LA.xs, List.nodup_cons, List.mem_cons, List.not_mem_nil, or_false, not_or, not_false_eq_true, List.nodup_nil, and_true] at h
  obtain ⟨⟨a1, a2, a3, a4, a5, a6, a7⟩, ⟨b1, b2, b3, b4, b5, b6⟩, ⟨c1, c2, c3, c4, c5⟩, ⟨d1, d2, d3, d4⟩, ⟨e1, e2, e3⟩, ⟨f1, f2⟩, h1⟩ := h
  exact ⟨⟨a1, a2, a3, a4, a5, a6, a7⟩, ⟨b1, b2, b3, b4, b5, b6⟩, ⟨c1, c2, c3, c4, c5⟩, ⟨d1, d2, d3, d4⟩, ⟨e1, e2, e3, f1, f2, h1⟩⟩
theorem upd_net (h : Apart a) : UpdT a.net.ks a.net.ps a.net.kn ok op on W (lst a ot os oo od ok op on orow W) (fun x y z t => lst a ot os oo od x y z orow t) := by
  obtain ⟨⟨_, _, _, a4, a5, a6, _⟩, ⟨_, _, b3, b4, b5, _⟩, ⟨_, c2, c3, c4, _⟩, ⟨d1, d2, d3, _⟩, ⟨_, _, e3, _, e5, e6⟩⟩ := h
  exact .skip a4 a5 a6 (.skip b3 b4 b5 (.skip c2 c3 c4 (.skip d1 d2 d3 (.one (.two (.three (.skip (Ne.symm e3) (Ne.symm e5) (Ne.symm e6) .tail)))))))
theorem off_ne {x : Addr} (o : OwnOff W a.xs) (hx : x ∈ a.xs) : ∀ p ∈ W, p.1 ≠ x := fun p hp => o p hp x hx
theorem upd_feed (h : Apart a) (o : OwnOff W a.xs) : UpdF a.d od (lst a ot os oo od ok op on orow W) (fun x => lst a ot os oo x ok op on orow W) := by
  obtain ⟨⟨_, _, a3, _⟩, ⟨_, b2, _⟩, ⟨c1, _⟩, ⟨d1, d2, d3, d4⟩, _⟩ := h
  exact .tail a3 (.tail b2 (.tail c1 (.head (all_cons (Ne.symm d1) (all_cons (Ne.symm d2) (all_cons (Ne.symm d3) (all_cons (Ne.symm d4) (off_ne o (by simp [LA.xs])))))))))
theorem upd_some (h : Apart a) (o : OwnOff W a.xs) : UpdF a.so oo (lst a ot os oo od ok op on orow W) (fun x => lst a ot os x od ok op on orow W) := by
  obtain ⟨⟨_, a2, _⟩, ⟨b1, _⟩, ⟨c1, c2, c3, c4, c5⟩, _, _⟩ := h
  exact .tail a2 (.tail b1 (.head (all_cons (Ne.symm c1) (all_cons (Ne.symm c2) (all_cons (Ne.symm c3) (all_cons (Ne.symm c4) (all_cons (Ne.symm c5) (off_ne o (by simp [LA.xs])))))))))
theorem upd_row (h : Apart a) (o : OwnOff W a.xs) : UpdF a.cr orow (lst a ot os oo od ok op on orow W) (fun x => lst a ot os oo od ok op on x W) := by
  obtain ⟨⟨_, _, _, _, _, _, a7⟩, ⟨_, _, _, _, _, b6⟩, ⟨_, _, _, _, c5⟩, ⟨_, _, _, d4⟩, ⟨_, _, e3, _, e5, e6⟩⟩ := h
  exact .tail a7 (.tail b6 (.tail c5 (.tail d4 (.tail e3 (.tail e5 (.tail e6 (.head (off_ne o (by simp [LA.xs])))))))))
theorem Led.pool {g : Heap} (J : Led w a c0 cvs b W tl rl st ot os oo od ok op on) : Pool g a.net W tl :=
  ⟨fun p hp => .inl (J.tlW p hp), fun p hp => ⟨J.off p hp _ (by simp [LA.xs]), J.off p hp _ (by simp [LA.xs]), J.off p hp _ (by simp [LA.xs])⟩⟩
theorem Led.ne3 (J : Led w a c0 cvs b W tl rl st ot os oo od ok op on) {p : Addr × Obj} (hp : p ∈ W) : Ne3 a.net p.1 := ⟨J.off p hp _ (by simp [LA.xs]), J.off p hp _ (by simp [LA.xs]), J.off p hp _ (by simp [LA.xs])⟩
end
end Mine
end
-- text LawCall
section
open PySem PySem.W PySem.Calls PyProof.Rows
set_option Elab.async false
set_option maxRecDepth 100000
set_option linter.unusedVariables false
namespace Mine
section
variable {w : World} {mean : ExcName → Option Value} {mg mb : Str → Option Value} {base g : Heap} {dp un : Nat} {gd : Option (List Code)} {fr : List Env} {s : Shared}
/-- a call that turns the circuit and hands back anything -/
theorem use_netV {P₀ : Heap → Prop} {PV : Value → Prop} {res : Circ} {f : Addr} {d u : Nat} {vs : List Value} {a : NA} {tl : List (Addr × Obj)} {c : Circ}
    (cc : Ctr w mean mg mb f d u vs (fun g h => NetPre w g h a tl c ∧ P₀ g) (fun g v _ h' => PV v ∧ NetPost w g h' a tl res))
    {A₀ : Around} {env : Env} {L : Addr} {m : Str → Option Value} {Q E : Value → Shared → Prop} {R news : List (Addr × Obj)} {G : Obj → Obj → Obj → List (Addr × Obj) → List (Addr × Obj)} {ok op od : Obj}
    (B : Below A₀ base fr g) (F : Fr g L s.heap m) (X : (hd.heap_39 w.params).In g) (T : TT mean mg mb g) (N : News g L s.heap news) (hf : env.frame = some L) (hke : env.scope.kind = .function)
    (m1 : (a.ks, ok) ∈ news) (m2 : (a.ps, op) ∈ news) (m3 : (a.kn, od) ∈ news) (U : UpdT a.ks a.ps a.kn ok op od R news G) (O : NetObj w tl ok op od c) (po : Pool g a R tl)
    (hd' : dp + d < recursionLimit) (hu : un + u < cLine)
    (hpre : ∀ g₂ : Heap, g.StaysIn g₂ → (∀ p ∈ news, @Ne Nat p.1 a.ks → @Ne Nat p.1 a.ps → @Ne Nat p.1 a.kn → g₂.get? p.1 = some p.2) → NetG g₂ a ∧ P₀ g₂)
    (k : ∀ v h' tk' ok' op' od' add, PV v → Fr g L h' m → News g L h' (G ok' op' od' (add ++ R)) → NetObj w (add ++ tl) ok' op' od' res → Pool g a (add ++ R) (add ++ tl) → (∀ p ∈ add, ∀ q ∈ news, @Ne Nat p.1 q.1) → Q v { s with heap := h', toks := tk' }) :
    wpAny (model PG w) (ar dp un gd (env :: fr)) (call (.ref f) vs) Q E s := by
  have w1 := N _ m1
  have w2 := N _ m2
  have w3 := N _ m3
  have NW : News g L s.heap [(a.ks, ok), (a.ps, op), (a.kn, od)] := by
    intro p hp
    simp only [List.mem_cons, List.not_mem_nil, or_false] at hp
    rcases hp with rfl | rfl | rfl
    · exact w1
    · exact w2
    · exact w3
  have hst : g.StaysIn (hideAll s.heap [a.ks, a.ps, a.kn]) := fun b x e => hideAll_get _ (F.keep b x e) fun q => by
    simp only [List.mem_cons, List.not_mem_nil, or_false] at q
    rcases q with rfl | rfl | rfl
    · rw [w1.2.2] at e; cases e
    · rw [w2.2.2] at e; cases e
    · rw [w3.2.2] at e; cases e
  have hk : ∀ p ∈ news, @Ne Nat p.1 a.ks → @Ne Nat p.1 a.ps → @Ne Nat p.1 a.kn → (hideAll s.heap [a.ks, a.ps, a.kn]).get? p.1 = some p.2 := fun p hp e1 e2 e3 => hideAll_get _ (N p hp).1 fun q => by
    simp only [List.mem_cons, List.not_mem_nil, or_false] at q
    rcases q with q | q | q
    · exact e1 q
    · exact e2 q
    · exact e3 q
  have hL : (hideAll s.heap [a.ks, a.ps, a.kn]).get? L ≠ none := by
    obtain ⟨oL, _, _, h1, _⟩ := F.ns
    rw [hideAll_get [a.ks, a.ps, a.kn] h1 fun q => ?_]
    · exact fun e => nomatch e
    · simp only [List.mem_cons, List.not_mem_nil, or_false] at q
      rcases q with q | q | q
      · exact w1.2.1 q.symm
      · exact w2.2.1 q.symm
      · exact w3.2.1 q.symm
  obtain ⟨hG, hP⟩ := hpre _ hst hk
  have hT : ∀ p ∈ tl, (hideAll s.heap [a.ks, a.ps, a.kn]).get? p.1 = some p.2 := fun p hp => by
    rcases po.inn p hp with hp | hp
    · exact hk p (U.sub p hp) (po.ne p hp).1 (po.ne p hp).2.1 (po.ne p hp).2.2
    · exact hst _ _ hp
  refine use_ctr cc [(a.ks, ok), (a.ps, op), (a.kn, od)] B F X T NW hf hke hd' hu ⟨⟨hG, ⟨ok, op, od, w1.1, w2.1, w3.1, O⟩, hideAll_none _ (by simp), hideAll_none _ (by simp), hideAll_none _ (by simp), hT⟩, hP⟩ ?_
  rintro v h' tk' F' k' ⟨hv, add, ok', op', od', r1, r2, r3, O', ha⟩
  have hne : ∀ p ∈ add, ∀ q ∈ news, @Ne Nat p.1 q.1 := fun p hp q hq e => by
    by_cases e1 : q.1 = a.ks
    · exact (ha p hp).2.2.1 (e.trans e1)
    by_cases e2 : q.1 = a.ps
    · exact (ha p hp).2.2.2.1 (e.trans e2)
    by_cases e3 : q.1 = a.kn
    · exact (ha p hp).2.2.2.2 (e.trans e3)
    have h1 := hk q hq e1 e2 e3
    have h2 := (ha p hp).2.1
    have e' : p.1 = q.1 := e
    rw [← e'] at h1
    exact nomatch (h2.symm.trans h1)
  refine k v h' tk' ok' op' od' add hv F' (U.all (P := fun p => h'.get? p.1 = some p.2 ∧ p.1 ≠ L ∧ g.get? p.1 = none) (fun p hp e1 e2 e3 => ⟨k' _ _ (hk p hp e1 e2 e3), (N p hp).2.1, (N p hp).2.2⟩) ⟨r1, w1.2⟩ ⟨r2, w2.2⟩ ⟨r3, w3.2⟩ fun p hp => ?_) O' (po.add fun p hp => (ha p hp).2.2) hne
  rcases List.mem_append.mp hp with hp | hp
  · refine ⟨(ha p hp).1, fun e => ?_, ?_⟩
    · have h2 := (ha p hp).2.1
      rw [e] at h2
      exact hL h2
    · cases q : g.get? p.1 with
      | none => rfl
      | some o => have h2 := (ha p hp).2.1; have h3 := hst _ _ q; exact nomatch (h2.symm.trans h3)
  · have hpn := U.sub p hp
    exact ⟨k' _ _ (hk p hpn (po.ne p hp).1 (po.ne p hp).2.1 (po.ne p hp).2.2), (N p hpn).2.1, (N p hpn).2.2⟩

variable {a : LA} {c0 : Addr} {cvs : List Value} {b : Int} {W tl rl : List (Addr × Obj)} {st : LS} {ot os oo od ok op on orow : Obj} {A₀ : Around} {env : Env} {L : Addr} {m : Str → Option Value} {Q E : Value → Shared → Prop}
theorem add_off {add : List (Addr × Obj)} (h : ∀ p ∈ add, ∀ q ∈ lst a ot os oo od ok op on orow W, @Ne Nat p.1 q.1) : OwnOff add a.xs := fun p hp x hx e => by
  obtain ⟨o, ho⟩ := lst_has (ot := ot) (os := os) (oo := oo) (od := od) (ok := ok) (op := op) (on := on) (orow := orow) (W := W) x hx
  exact h p hp _ ho e
theorem Led.net' {c' : Circ} {add : List (Addr × Obj)} {ok' op' on' : Obj} (J : Led w a c0 cvs b W tl rl st ot os oo od ok op on) (O : NetObj w (add ++ tl) ok' op' on' c') (h : OwnOff add a.xs) :
    Led w a c0 cvs b (add ++ W) (add ++ tl) rl { st with c := c' } ot os oo od ok' op' on' where
  tb := J.tb
  sb := let ⟨sv, n, e, h⟩ := J.sb; ⟨sv, n, e, h.mono fun p hp => List.mem_append_right _ hp⟩
  so := J.so
  fd := J.fd
  net := O
  off := off_app h J.off
  nd := J.nd
  tlW := fun p hp => (List.mem_append.mp hp).elim (fun h => List.mem_append_left _ h) fun h => List.mem_append_right _ (J.tlW p h)
  rlW := fun p hp => List.mem_append_right _ (J.rlW p hp)
  nN := J.nN.mono fun p hp => List.mem_append_right _ hp
  cl := let ⟨n, h⟩ := J.cl; ⟨n, List.mem_append_right _ h⟩
/-- what is said of a call of the circuit behind it -/
theorem law_asked {kind : Int} {tk₀ : Tok} {ga : Addr} {vs : List Value} {ns : List Int} {n n1 : Nat} {oga : Obj}
    (B : Below A₀ base fr g) (F : Fr g L s.heap m) (X : (hd.heap_39 w.params).In g) (T : TT mean mg mb g) (N : News g L s.heap (lst a ot os oo od ok op on orow W)) (hf : env.frame = some L) (hke : env.scope.kind = .function)
    (hd' : dp + 12 < recursionLimit) (hu : un + 110 < cLine) (J : Led w a c0 cvs b W tl rl st ot os oo od ok op on)
    (hs : Small st.c n) (hz : n ≤ 860) (h0 : 0 ≤ kind) (h8 : kind < 8) (hga : (ga, oga) ∈ W) (hoga : oga.cls = .type "list" ∧ oga.data = .seq (List.toArray vs) n1) (hi : IntsAre vs ns) (hn : ns.length ≤ 10) (h2 : 2 ≤ kind → 2 ≤ ns.length) (h7 : kind = 7 → 3 ≤ ns.length)
    (k : ∀ t h' tk' ok' op' on' add, Fr g L h' m → News g L h' (lst a ot os oo od ok' op' on' orow (add ++ W)) → Led w a c0 cvs b (add ++ W) (add ++ tl) rl { st with c := (askedF st.c kind ns).1 } ot os oo od ok' op' on' → (∀ p ∈ add, ∀ q ∈ W, @Ne Nat p.1 q.1) → Q (.int (askedF st.c kind ns).2 t) { s with heap := h', toks := tk' }) :
    wpAny (model PG w) (ar dp un gd (env :: fr)) (call (.ref 145) [.ref a.net.net, .int kind tk₀, .ref ga]) Q E s := by
  refine use_netM (P₀ := fun g => g.IsList ga (List.toArray vs)) (asked_ctr w mean mg mb a.net tl st.c n hs hz kind tk₀ h0 h8 ga vs ns hi hn h2 h7) B F X T N hf hke (by simp [lst]) (by simp [lst]) (by simp [lst]) (upd_net (apart J.nd)) J.net J.pool hd' hu
    (fun g₂ st' kp => ⟨J.nN.G fun p hp n3 => kp p (lst_W hp) n3.1 n3.2.1 n3.2.2, ⟨_, kp _ (lst_W hga) (J.ne3 hga).1 (J.ne3 hga).2.1 (J.ne3 hga).2.2, hoga.1, _, hoga.2⟩⟩) ?_
  intro t h' tk' ok' op' on' add F' N' O' _ hne
  exact k t h' tk' ok' op' on' add F' N' (J.net' O' (add_off hne)) fun p hp q hq => hne p hp q (lst_W hq)
theorem law_settled {kind : Int} {tk₀ tg : Tok} {ga : Addr} {gg : Int} {vs : List Value} {ns : List Int} {n n1 : Nat} {oga : Obj}
    (B : Below A₀ base fr g) (F : Fr g L s.heap m) (X : (hd.heap_39 w.params).In g) (T : TT mean mg mb g) (N : News g L s.heap (lst a ot os oo od ok op on orow W)) (hf : env.frame = some L) (hke : env.scope.kind = .function)
    (hd' : dp + 8 < recursionLimit) (hu : un + 300 < cLine) (J : Led w a c0 cvs b W tl rl st ot os oo od ok op on)
    (hs : Small st.c n) (hz : n ≤ 860) (h0 : 0 ≤ kind) (h8 : kind < 8) (hga : (ga, oga) ∈ W) (hoga : oga.cls = .type "list" ∧ oga.data = .seq (List.toArray vs) n1) (hi : IntsAre vs ns) (hn : ns.length ≤ 3) (h2 : 2 ≤ kind → 2 ≤ ns.length) (h7 : kind = 7 → 3 ≤ ns.length)
    (hH : Has st.c gg) (hb : ∀ x ∈ ns, -1000 ≤ x ∧ x ≤ 1000) (e1 : (settledF st.c kind ns gg).1 = st.c) (e2 : (settledF st.c kind ns gg).2 = true)
    (k : ∀ h' tk' ok' op' on' add, Fr g L h' m → News g L h' (lst a ot os oo od ok' op' on' orow (add ++ W)) → Led w a c0 cvs b (add ++ W) (add ++ tl) rl st ot os oo od ok' op' on' → (∀ p ∈ add, ∀ q ∈ W, @Ne Nat p.1 q.1) → Q (.bool true) { s with heap := h', toks := tk' }) :
    wpAny (model PG w) (ar dp un gd (env :: fr)) (call (.ref 162) [.ref a.net.net, .int kind tk₀, .ref ga, .int gg tg]) Q E s := by
  refine use_netV (P₀ := fun g => g.IsList ga (List.toArray vs)) (PV := fun v => v = .bool (settledF st.c kind ns gg).2) (settled_ctr w mean mg mb a.net tl st.c n hs hz kind tk₀ h0 h8 ga gg tg vs ns hi hn h2 h7 hH hb) B F X T N hf hke (by simp [lst]) (by simp [lst]) (by simp [lst]) (upd_net (apart J.nd)) J.net J.pool hd' hu
    (fun g₂ st' kp => ⟨J.nN.G fun p hp n3 => kp p (lst_W hp) n3.1 n3.2.1 n3.2.2, ⟨_, kp _ (lst_W hga) (J.ne3 hga).1 (J.ne3 hga).2.1 (J.ne3 hga).2.2, hoga.1, _, hoga.2⟩⟩) ?_
  intro v h' tk' ok' op' on' add hv F' N' O' _ hne
  rw [e2] at hv
  rw [e1] at O'
  subst hv
  exact k h' tk' ok' op' on' add F' N' (J.net' O' (add_off hne)) fun p hp q hq => hne p hp q (lst_W hq)
theorem law_draw {t6 : Tok} {many : Int} {ns : List Int}
    (B : Below A₀ base fr g) (F : Fr g L s.heap m) (X : (hd.heap_39 w.params).In g) (T : TT mean mg mb g) (N : News g L s.heap (lst a ot os oo od ok op on orow W)) (hf : env.frame = some L) (hke : env.scope.kind = .function)
    (hd' : dp + 2 < recursionLimit) (hu : un + 10 < cLine) (J : Led w a c0 cvs b W tl rl st ot os oo od ok op on)
    (hi : IntsAre cvs ns) (hlen : ns.length ≤ 63) (hb : 0 ≤ b) (hb' : b ≤ 100000) (hk : 0 ≤ st.k) (hk' : st.k ≤ 1000) (hm : 1 ≤ many) (hm' : many ≤ 1000)
    (k : ∀ x t h' tk' od', 0 ≤ x → x < many → Fr g L h' m → News g L h' (lst a ot os oo od' ok op on orow W) → Led w a c0 cvs b W tl rl { st with k := st.k + 1 } ot os oo od' ok op on → Q (.int x t) { s with heap := h', toks := tk' }) :
    wpAny (model PG w) (ar dp un gd (env :: fr)) (call (.ref 131) [.ref a.d, .int many t6]) Q E s := by
  obtain ⟨n, hc⟩ := J.cl
  refine use1 (P := FeedObj w c0 b (st.k + 1)) (P₁ := FeedObj w c0 b st.k) (P₀ := fun g => g.IsList c0 cvs.toArray) (PV := fun _ v _ => ∃ t, v = .int (drawV ns b st.k many) t) (draw_ctr w mean mg mb a.d c0 t6 st.k b many cvs ns hk hk' hb hb' hm hm' hlen hi)
    B F X T N hf hke (upd_feed (apart J.nd) J.off) hd' hu J.fd (fun g₂ st' kp => ⟨_, kp _ (lst_W hc) (J.off _ hc _ (by simp [LA.xs])), rfl, _, rfl⟩) fun v h' o' tk' F' N' _ hv ho' => ?_
  obtain ⟨t, rfl⟩ := hv
  exact k _ t h' tk' o' (drawV_lt (by omega)).1 (drawV_lt (by omega)).2 F' N' { J with fd := ho' }
end
end Mine
end
-- text LawCall2
section
open PySem PySem.W PySem.Calls PyProof.Rows
set_option Elab.async false
set_option maxRecDepth 100000
set_option linter.unusedVariables false
namespace Mine
theorem sub_of_keep {X : List Addr} {h : Heap} {x : Addr} {o : Obj} (e : h.get? x = some o) (hx : x ∉ X) : (hideAll h X).get? x = some o := hideAll_get _ e hx
section
variable {w : World} {mean : ExcName → Option Value} {mg mb : Str → Option Value} {base g : Heap} {dp un : Nat} {gd : Option (List Code)} {fr : List Env} {s : Shared}
variable {a : LA} {c0 : Addr} {cvs : List Value} {b : Int} {W tl rl : List (Addr × Obj)} {st : LS} {ot os oo od ok op on orow : Obj} {A₀ : Around} {env : Env} {L : Addr} {m : Str → Option Value} {Q E : Value → Shared → Prop}
/-- what a hidden heap shows besides one address, and a fresh address in it -/
theorem fresh_ne {X : List Addr} {h g₂ : Heap} {fl x : Addr} {o : Obj} (e : h.get? x = some o) (hx : x ∉ X) (hfl : (hideAll h X).get? fl = none) : fl ≠ x := fun q => by
  rw [q, sub_of_keep e hx] at hfl; cases hfl
theorem law_gates {t6 : Tok} {many : Nat} {ns : List Int}
    (B : Below A₀ base fr g) (F : Fr g L s.heap m) (X : (hd.heap_39 w.params).In g) (T : TT mean mg mb g) (N : News g L s.heap (lst a ot os oo od ok op on orow W)) (hf : env.frame = some L) (hke : env.scope.kind = .function)
    (hd' : dp + 5 < recursionLimit) (hu : un + 40 < cLine) (J : Led w a c0 cvs b W tl rl st ot os oo od ok op on)
    (hi : IntsAre cvs ns) (hlen : ns.length ≤ 63) (hb : 0 ≤ b) (hb' : b ≤ 100000) (hk : 0 ≤ st.k) (hk' : st.k + 2 * many ≤ 900) (hm' : many ≤ 3) (hs1 : 1 ≤ st.ss.length) (hs2 : st.ss.length ≤ 900)
    (k : ∀ fl ws n' h' tk' od', Fr g L h' m → News g L h' (lst a ot os oo od' ok op on orow ((fl, PySem.W.listOf (List.toArray ws) n') :: W)) → IntsAre ws (gatesV ns b st.ss st.k many) → Led w a c0 cvs b ((fl, PySem.W.listOf (List.toArray ws) n') :: W) tl rl { st with k := st.k + 2 * many } ot os oo od' ok op on → (∀ q ∈ W, @Ne Nat fl q.1) → Q (.ref fl) { s with heap := h', toks := tk' }) :
    wpAny (model PG w) (ar dp un gd (env :: fr)) (call (.ref 138) [.ref a.d, .ref a.so, .int (many : Int) t6]) Q E s := by
  obtain ⟨n, hc⟩ := J.cl
  obtain ⟨svs, n2, rfl, hsi⟩ := J.so
  have Ap := apart J.nd
  refine use1 (P := FeedObj w c0 b (st.k + 2 * many)) (P₁ := FeedObj w c0 b st.k) (P₀ := fun g => g.IsList c0 cvs.toArray ∧ g.IsList a.so svs.toArray) (PV := fun g v h' => ∃ fl ws n', v = .ref fl ∧ h'.get? fl = some (listOf (List.toArray ws) n') ∧ IntsAre ws (gatesV ns b st.ss st.k many) ∧ g.get? fl = none ∧ fl ≠ a.d)
    (gates_ctr w mean mg mb a.d c0 a.so t6 st.k b many cvs svs ns st.ss hk hk' hm' hlen hi hs1 hs2 hsi hb hb')
    B F X T N hf hke (upd_feed Ap J.off) hd' hu J.fd (fun g₂ st' kp => ⟨⟨_, kp _ (lst_W hc) (J.off _ hc _ (by simp [LA.xs])), rfl, _, rfl⟩, ⟨_, kp (a.so, PySem.W.listOf (List.toArray svs) n2) (by simp [lst]) Ap.o.1, rfl, _, rfl⟩⟩) fun v h' o' tk' F' N' kp hv ho' => ?_
  obtain ⟨fl, ws, n', rfl, hfl, hws, hfr, hne⟩ := hv
  have hd1 : ∀ q ∈ lst a ot os (listOf svs.toArray n2) od ok op on orow W, fl ≠ q.1 := fun q hq e => by
    by_cases e1 : q.1 = a.d
    · exact hne (e.trans e1)
    · have := hideAll_get [a.d] (N q hq).1 (by simpa using e1)
      rw [← e, hfr] at this; cases this
  have hL : fl ≠ L := fun e => by
    obtain ⟨oL, _, _, h1, _⟩ := F.ns
    have hLd : L ≠ a.d := fun q => (N (a.d, od) (by simp [lst])).2.1 q.symm
    have := hideAll_get [a.d] h1 (by simpa using hLd)
    rw [← e, hfr] at this; cases this
  have hg : g.get? fl = none := by
    cases q : g.get? fl with
    | none => rfl
    | some o =>
      have := hideAll_get [a.d] (F.keep _ _ q) (by simpa using hne)
      rw [hfr] at this; cases this
  have hoff : OwnOff ((fl, listOf (List.toArray ws) n') :: W) a.xs := off_cons (fun q hq => by
    obtain ⟨o, ho⟩ := lst_has (ot := ot) (os := os) (oo := listOf svs.toArray n2) (od := od) (ok := ok) (op := op) (on := on) (orow := orow) (W := W) q hq
    exact hd1 _ ho) J.off
  refine k fl ws n' h' tk' o' F' (fun p hp => ?_) hws { (J.more (fun p hp => .tail _ hp) hoff) with fd := ho' } fun q hq => hd1 q (lst_W hq)
  have key : p = (fl, listOf (List.toArray ws) n') ∨ p ∈ lst a ot os (listOf svs.toArray n2) o' ok op on orow W := by
    simp only [lst, List.mem_cons] at hp ⊢
    rcases hp with h | h | h | h | h | h | h | h | h | h
    · exact .inr (.inl h)
    · exact .inr (.inr (.inl h))
    · exact .inr (.inr (.inr (.inl h)))
    · exact .inr (.inr (.inr (.inr (.inl h))))
    · exact .inr (.inr (.inr (.inr (.inr (.inl h)))))
    · exact .inr (.inr (.inr (.inr (.inr (.inr (.inl h))))))
    · exact .inr (.inr (.inr (.inr (.inr (.inr (.inr (.inl h)))))))
    · exact .inr (.inr (.inr (.inr (.inr (.inr (.inr (.inr (.inl h))))))))
    · exact .inl h
    · exact .inr (.inr (.inr (.inr (.inr (.inr (.inr (.inr (.inr h))))))))
  rcases key with rfl | hp
  · exact ⟨hfl, hL, hg⟩
  · exact N' p hp
theorem Led.read {h : Heap} (J : Led w a c0 cvs b W tl rl st ot os oo od ok op on) (N : News g L h (lst a ot os oo od ok op on orow W)) : NetRead w h a.net tl st.c where
  G := J.nN.G fun p hp _ => N.get (lst_W hp)
  objs := ⟨ok, op, on, N.get (by simp [lst]), N.get (by simp [lst]), N.get (by simp [lst]), J.net⟩
  pool := fun p hp => N.get (lst_W (J.tlW p hp))
theorem law_grown {n R : Nat}
    (B : Below A₀ base fr g) (F : Fr g L s.heap m) (X : (hd.heap_39 w.params).In g) (T : TT mean mg mb g) (N : News g L s.heap (lst a ot os oo od ok op on orow W)) (hf : env.frame = some L) (hke : env.scope.kind = .function)
    (hd' : dp + 6 < recursionLimit) (hu : un + 300 < cLine) (J : Led w a c0 cvs b W tl rl st ot os oo od ok op on)
    (hs : Small st.c n) (hz : n ≤ 860) (hkp : st.c.parts.length = st.c.kinds.length) (hR8 : R ≤ 8) (ht2 : 2 ≤ st.ts.length) (htk : st.ts.length ≤ st.c.kinds.length)
    (hrow : ∀ i, 1 ≤ i → i < st.ts.length → (st.ts.getD i []).length = R) (hsn : st.sn.length ≤ 900)
    (hok : ∀ k, st.ts.length + k < st.c.kinds.length → GateOk st.c (growN st.c st.ts st.sn k).2 (st.ts.length + k))
    (k : ∀ h' tk' ot' os' add, Fr g L h' m → News g L h' (lst a ot' os' oo od ok op on orow (add ++ W)) →
      Led w a c0 cvs b (add ++ W) tl (add ++ rl) { st with ts := (growN st.c st.ts st.sn (st.c.kinds.length - st.ts.length)).1, sn := (growN st.c st.ts st.sn (st.c.kinds.length - st.ts.length)).2 } ot' os' oo od ok op on → (∀ p ∈ add, ∀ q ∈ W, @Ne Nat p.1 q.1) → Q (.bool true) { s with heap := h', toks := tk' }) :
    wpAny (model PG w) (ar dp un gd (env :: fr)) (call (.ref 181) [.ref a.net.net, .ref a.tb, .ref a.sb]) Q E s := by
  have Ap := apart J.nd
  obtain ⟨rs, k1, rfl, hrs⟩ := J.tb
  obtain ⟨sv, k2, rfl, hsv⟩ := J.sb
  have m1 : (a.tb, listOf rs.toArray k1) ∈ lst a (listOf rs.toArray k1) (listOf sv.toArray k2) oo od ok op on orow W := by simp [lst]
  have m2 : (a.sb, listOf sv.toArray k2) ∈ lst a (listOf rs.toArray k1) (listOf sv.toArray k2) oo od ok op on orow W := by simp [lst]
  have NW : News g L s.heap [(a.tb, listOf rs.toArray k1), (a.sb, listOf sv.toArray k2)] := by
    intro p hp
    simp only [List.mem_cons, List.not_mem_nil, or_false] at hp
    rcases hp with rfl | rfl
    · exact N _ m1
    · exact N _ m2
  have hx : ∀ x : Addr, @Ne Nat x a.tb → @Ne Nat x a.sb → x ∉ [a.tb, a.sb] := fun x h1 h2 q => by
    simp only [List.mem_cons, List.not_mem_nil, or_false] at q
    rcases q with q | q
    · exact h1 q
    · exact h2 q
  have kW : ∀ p ∈ W, (hideAll s.heap [a.tb, a.sb]).get? p.1 = some p.2 := fun p hp => hideAll_get _ (N p (lst_W hp)).1 (hx _ (J.off p hp _ (by simp [LA.xs])) (J.off p hp _ (by simp [LA.xs])))
  have hR : NetRead w (hideAll s.heap [a.tb, a.sb]) a.net tl st.c :=
    ⟨J.nN.G fun p hp _ => kW p hp, ⟨ok, op, on, hideAll_get _ (N (a.net.ks, ok) (by simp [lst])).1 (hx _ (Ne.symm Ap.t.2.2.2.1) (Ne.symm Ap.s.2.2.1)), hideAll_get _ (N (a.net.ps, op) (by simp [lst])).1 (hx _ (Ne.symm Ap.t.2.2.2.2.1) (Ne.symm Ap.s.2.2.2.1)), hideAll_get _ (N (a.net.kn, on) (by simp [lst])).1 (hx _ (Ne.symm Ap.t.2.2.2.2.2.1) (Ne.symm Ap.s.2.2.2.2.1)), J.net⟩, fun p hp => kW p (J.tlW p hp)⟩
  refine use_ctr (grown_ctr w mean mg mb a.net tl st.c n hs hz hkp st.ts st.sn R hR8 ht2 htk hrow hsn hok a.tb a.sb Ap.t.1 rl) [(a.tb, listOf rs.toArray k1), (a.sb, listOf sv.toArray k2)] B F X T NW hf hke hd' hu
    ⟨hR, ⟨rs, k1, (N _ m1).1, hrs⟩, ⟨sv, k2, (N _ m2).1, hsv⟩, hideAll_none _ (by simp), hideAll_none _ (by simp), fun p hp => kW p (J.rlW p hp)⟩ ?_
  rintro v h' tk' F' kp ⟨rfl, add, rs', n1', sv', n2', e1, hrs', e2, hsv', hadd⟩
  have hgx : ∀ q ∈ lst a (listOf rs.toArray k1) (listOf sv.toArray k2) oo od ok op on orow W, @Ne Nat q.1 a.tb → @Ne Nat q.1 a.sb → (hideAll s.heap [a.tb, a.sb]).get? q.1 = some q.2 := fun q hq x1 x2 => hideAll_get _ (N q hq).1 (hx _ x1 x2)
  have hne : ∀ p ∈ add, ∀ q ∈ lst a (listOf rs.toArray k1) (listOf sv.toArray k2) oo od ok op on orow W, @Ne Nat p.1 q.1 := fun p hp q hq e => by
    by_cases x1 : q.1 = a.tb
    · exact (hadd p hp).2.2.1 (e.trans x1)
    by_cases x2 : q.1 = a.sb
    · exact (hadd p hp).2.2.2 (e.trans x2)
    have h1 := hgx q hq x1 x2
    have h2 := (hadd p hp).2.1
    have e' : p.1 = q.1 := e
    rw [← e'] at h1
    exact nomatch (h2.symm.trans h1)
  have hoff := add_off hne
  have hL : (hideAll s.heap [a.tb, a.sb]).get? L ≠ none := by
    obtain ⟨oL, _, _, h1, _⟩ := F.ns
    rw [hideAll_get [a.tb, a.sb] h1 (hx _ (fun e => (N _ m1).2.1 e.symm) (fun e => (N _ m2).2.1 e.symm))]
    exact fun e => nomatch e
  refine k h' tk' _ _ add F' (fun p hp => ?_) { (J.more (fun p hp => List.mem_append_right add hp) (off_app hoff J.off)) with tb := ⟨rs', n1', rfl, hrs'⟩, sb := ⟨sv', n2', rfl, hsv'⟩, rlW := fun p hp => (List.mem_append.mp hp).elim (fun h => List.mem_append_left _ h) fun h => List.mem_append_right _ (J.rlW p h) } fun p hp q hq => hne p hp q (lst_W hq)
  have old : ∀ q : Addr × Obj, q ∈ lst a (listOf rs.toArray k1) (listOf sv.toArray k2) oo od ok op on orow W → @Ne Nat q.1 a.tb → @Ne Nat q.1 a.sb → h'.get? q.1 = some q.2 ∧ q.1 ≠ L ∧ g.get? q.1 = none := fun q hq x1 x2 => ⟨kp _ _ (hgx q hq x1 x2), (N q hq).2⟩
  simp only [lst, List.mem_cons, List.mem_append] at hp
  rcases hp with rfl | rfl | rfl | rfl | rfl | rfl | rfl | rfl | hp | hp
  · exact ⟨e1, (N _ m1).2⟩
  · exact ⟨e2, (N _ m2).2⟩
  · exact old _ (by simp [lst]) (Ne.symm Ap.t.2.1) (Ne.symm Ap.s.1)
  · exact old _ (by simp [lst]) (Ne.symm Ap.t.2.2.1) (Ne.symm Ap.s.2.1)
  · exact old _ (by simp [lst]) (Ne.symm Ap.t.2.2.2.1) (Ne.symm Ap.s.2.2.1)
  · exact old _ (by simp [lst]) (Ne.symm Ap.t.2.2.2.2.1) (Ne.symm Ap.s.2.2.2.1)
  · exact old _ (by simp [lst]) (Ne.symm Ap.t.2.2.2.2.2.1) (Ne.symm Ap.s.2.2.2.2.1)
  · exact old _ (by simp [lst]) (Ne.symm Ap.t.2.2.2.2.2.2) (Ne.symm Ap.s.2.2.2.2.2)
  · refine ⟨(hadd p hp).1, fun e => ?_, ?_⟩
    · have h2 := (hadd p hp).2.1
      rw [e] at h2
      exact hL h2
    · cases q : g.get? p.1 with
      | none => rfl
      | some o =>
        have h2 := (hadd p hp).2.1
        have h3 := hideAll_get [a.tb, a.sb] (F.keep _ _ q) (hx _ (hadd p hp).2.2.1 (hadd p hp).2.2.2)
        exact nomatch (h2.symm.trans h3)
  · exact old p (lst_W hp) (J.off p hp _ (by simp [LA.xs])) (J.off p hp _ (by simp [LA.xs]))
theorem law_size {n : Nat}
    (B : Below A₀ base fr g) (F : Fr g L s.heap m) (X : (hd.heap_39 w.params).In g) (T : TT mean mg mb g) (N : News g L s.heap (lst a ot os oo od ok op on orow W)) (hf : env.frame = some L) (hke : env.scope.kind = .function)
    (hd' : dp + 2 < recursionLimit) (hu : un + 10 < cLine) (J : Led w a c0 cvs b W tl rl st ot os oo od ok op on) (hs : Small st.c n) (hz : n ≤ 900)
    (k : ∀ t h' tk', Fr g L h' m → News g L h' (lst a ot os oo od ok op on orow W) → Q (.int ((st.c.kinds.length : Int) - 1) t) { s with heap := h', toks := tk' }) :
    wpAny (model PG w) (ar dp un gd (env :: fr)) (call (.ref 35) [.ref a.net.net]) Q E s :=
  size_use B F X T N hf hke hd' hu (J.read N) (by have := hs.1; omega) k
theorem law_again {kind : Int} {tk₀ : Tok} {ga : Addr} {vs : List Value} {ns : List Int} {n1 : Nat} {oga : Obj}
    (B : Below A₀ base fr g) (F : Fr g L s.heap m) (X : (hd.heap_39 w.params).In g) (T : TT mean mg mb g) (N : News g L s.heap (lst a ot os oo od ok op on orow W)) (hf : env.frame = some L) (hke : env.scope.kind = .function)
    (hd' : dp + 2 < recursionLimit) (hu : un + 20 < cLine) (J : Led w a c0 cvs b W tl rl st ot os oo od ok op on)
    (h0 : 0 ≤ kind) (h8 : kind < 8) (hga : (ga, oga) ∈ W) (hoga : oga.cls = .type "list" ∧ oga.data = .seq (List.toArray vs) n1) (hi : IntsAre vs ns) (hn : ns.length ≤ 10)
    (k : ∀ l ol ws n2 h' tk' add, Fr g L h' m → News g L h' (lst a ot os oo od ok op on orow (add ++ W)) → Led w a c0 cvs b (add ++ W) tl rl st ot os oo od ok op on → (∀ p ∈ add, ∀ q ∈ W, @Ne Nat p.1 q.1) → (l, ol) ∈ add ++ W → (ol.cls = .type "list" ∧ ol.data = .seq (List.toArray ws) n2) → IntsAre ws (againF kind ns) → Q (.ref l) { s with heap := h', toks := tk' }) :
    wpAny (model PG w) (ar dp un gd (env :: fr)) (call (.ref 169) [.int kind tk₀, .ref ga]) Q E s := by
  refine use_read (P₀ := fun g => g.IsList ga (List.toArray vs)) (PV := fun g v h' => ∃ l ws, v = .ref l ∧ h'.IsList l (List.toArray ws) ∧ IntsAre ws (againF kind ns) ∧ (g.get? l = none ∨ l = ga))
    (again_ctr w mean mg mb kind tk₀ h0 h8 ga vs ns hi hn) B F X T N hf hke hd' hu ⟨_, N.get (lst_W hga), hoga.1, _, hoga.2⟩ ?_
  rintro v h' tk' F' N' kp ⟨l, ws, rfl, ⟨ol, hol, hc, n2, hd2⟩, hws, hl⟩
  rcases hl with hl | rfl
  · have hd1 : ∀ q ∈ lst a ot os oo od ok op on orow W, l ≠ q.1 := fun q hq e => by
      have := (N q hq).1
      rw [← e, hl] at this; cases this
    have hoff : OwnOff ((l, ol) :: W) a.xs := off_cons (fun q hq => by
      obtain ⟨o, ho⟩ := lst_has (ot := ot) (os := os) (oo := oo) (od := od) (ok := ok) (op := op) (on := on) (orow := orow) (W := W) q hq
      exact hd1 _ ho) J.off
    refine k l ol ws n2 h' tk' [(l, ol)] F' (fun p hp => ?_) (J.more (fun p hp => .tail _ hp) hoff) (fun p hp q hq => by rw [List.mem_singleton.mp hp]; exact hd1 q (lst_W hq)) (.head _) ⟨hc, hd2⟩ hws
    have key : p = (l, ol) ∨ p ∈ lst a ot os oo od ok op on orow W := by
      simp only [lst, List.mem_cons, List.cons_append, List.nil_append] at hp ⊢
      rcases hp with h | h | h | h | h | h | h | h | h | h
      · exact .inr (.inl h)
      · exact .inr (.inr (.inl h))
      · exact .inr (.inr (.inr (.inl h)))
      · exact .inr (.inr (.inr (.inr (.inl h))))
      · exact .inr (.inr (.inr (.inr (.inr (.inl h)))))
      · exact .inr (.inr (.inr (.inr (.inr (.inr (.inl h))))))
      · exact .inr (.inr (.inr (.inr (.inr (.inr (.inr (.inl h)))))))
      · exact .inr (.inr (.inr (.inr (.inr (.inr (.inr (.inr (.inl h))))))))
      · exact .inl h
      · exact .inr (.inr (.inr (.inr (.inr (.inr (.inr (.inr (.inr h))))))))
    rcases key with rfl | hp
    · refine ⟨hol, fun e => ?_, ?_⟩
      · obtain ⟨oL, _, _, h1, _⟩ := F.ns
        have e' : l = L := e
        rw [← e', hl] at h1; cases h1
      · cases q : g.get? l with
        | none => rfl
        | some o => have := F.keep _ _ q; rw [hl] at this; cases this
    · exact N' p hp
  · refine k l oga ws n2 h' tk' [] F' N' J (fun p hp => nomatch hp) hga ?_ hws
    have := N'.get (lst_W hga)
    rw [hol] at this
    cases this
    exact ⟨hc, hd2⟩
end
end Mine
end
-- text D16
section
open PySem PySem.W PySem.Calls PyProof.Rows
set_option Elab.async false
set_option maxRecDepth 100000
set_option maxHeartbeats 8000000
set_option linter.unusedVariables false
namespace Mine
local macro_rules | `(tactic| walk_at "p0") => `(tactic| skip)
local macro_rules | `(tactic| walk_at "p1") => `(tactic| skip)
local macro_rules | `(tactic| walk_at "p2") => `(tactic| skip)
local macro_rules | `(tactic| walk_at "p3") => `(tactic| skip)
local macro_rules | `(tactic| walk_at "p4") => `(tactic| skip)
local macro_rules | `(tactic| walk_at "p5") => `(tactic| skip)
local macro_rules | `(tactic| walk_at "p6") => `(tactic| skip)
local macro_rules | `(tactic| walk_at "p7") => `(tactic| skip)
local macro_rules | `(tactic| walk_at "p8") => `(tactic| skip)
local macro_rules | `(tactic| walk_at "p9") => `(tactic| skip)
local macro_rules | `(tactic| walk_at "p10") => `(tactic| skip)
local macro_rules | `(tactic| walk_at "p11") => `(tactic| skip)
theorem D16_fill (w : World) : (hd.heap_39 w.params = hd.heap_39 w.params ∧ PySem.Challenge.rw_nu0265_01 = PySem.Challenge.rw_nu0265_01) := by
  k_fill
  exact ⟨rfl, rfl⟩
local macro_rules | `(tactic| k_updF) => `(tactic| first
  | exact Upd3.nil
  | (refine' Upd3.one ?y8r; (case y8r => k_updF))
  | (refine' Upd3.two ?y8r; (case y8r => k_updF))
  | (refine' Upd3.three ?y8r; (case y8r => k_updF))
  | (refine' Upd3.skip ?y8a ?y8b ?y8c ?y8r; (case y8a => ((try dsimp only); omega)); (case y8b => ((try dsimp only); omega)); (case y8c => ((try dsimp only); omega)); (case y8r => k_updF)))
noncomputable def newInput (c : Circ) : Circ := { c with kinds := c.kinds ++ [Str.ofString "input"], parts := c.parts ++ [[]] }
local macro_rules | `(tactic| walk_at "call ref") => `(tactic| ((with_reducible show wpAny _ _ (call (Value.ref 56) _) _ _ _); refine Stop.mk ?_))
section
variable (w : World) (mean : ExcName → Option Value) (mg mb : Str → Option Value) (a : NA) (tl : List (Addr × Obj)) (c : Circ)
theorem new_input_ctr (n : Nat) (hs : Small c n) (hz : n ≤ 890) :
  Ctr w mean mg mb 63 6 50 [.ref a.net] (fun g h => NetPre w g h a tl c ∧ True)
    (fun g v _ h' => (∃ t, v = .int (c.kinds.length : Int) t) ∧ NetPost w g h' a tl (newInput c)) := by
  rintro dp un gd fr base g s Q E C hd hu ⟨⟨hG, ⟨ok, op, od, g1, g2, g3, hO⟩, f1, f2, f3, hpool⟩, hP₀⟩ hQ
  obtain ⟨hinst, ⟨x1, x2, x3, x4, x5, x6, x7, hdict⟩, n1, n2, n3, lo⟩ := id hG
  have X := C.X
  have T := C.T
  have B := C.B
  have hP := Pool.start (a := a) hpool
  refine wpAny_call ?_
  k_dflt (refine' enter C ?k6 ?k7 ?k8 ?k9 ?kB ?_ ?c2 ?c3 ?c4 ?c5; (case k6 => k_is); (case k7 => k_is); (case k8 => omega); (case k9 => exact BindsTo.of_eq rfl); (case kB => exact locs rfl); (case c2 => exact rfl); (case c3 => exact rfl); (case c4 => exact rfl); (case c5 => decide))
  intro h₁ F K₁
  have N := news3 K₁ g1 g2 g3 f1 f2 f3
  (try dsimp only)
  (try k_fold)
  have hsm := id hs
  unfold Small at hsm
  k_steps
  refine Stop.out ?_
  k_dflt (refine' new_gate_use (p := []) ?y9B ?y9F ?y9X ?y9T ?y9N ?y9f ?y9k ?y9m1 ?y9m2 ?y9m3 ?y9U ?y9O ?y9d ?y9u ?y9G ?y9po ?y9c1 ?y9c2 ?y9mt ?y9e1 ?y9e2 ?y9e3 ?y9p ?_; (case y9B => k_asm); (case y9F => k_asm); (case y9X => k_asm); (case y9T => k_asm); (case y9N => k_asm); (case y9f => exact rfl); (case y9k => exact rfl); (case y9G => assumption); (case y9m1 => k_mem); (case y9m2 => k_mem); (case y9m3 => k_mem); (case y9U => k_updF); (case y9O => assumption); (case y9d => (dsimp only [Around.deeper, ar]; (refine Nat.lt_of_le_of_lt ?_ (by assumption)); simp)); (case y9u => (dsimp only [Around.deeper, ar]; (refine Nat.lt_of_le_of_lt ?_ (by assumption)); simp)); (case y9po => assumption); (case y9c1 => omega); (case y9c2 => omega); (case y9mt => k_mem); (case y9e1 => omega); (case y9e2 => omega); (case y9e3 => omega); (case y9p => exact ⟨[], 0, rfl, .nil⟩))
  intro t9 h9 tk9 ok9 op9 od9 F9 N9 O9
  (try dsimp only at N9)
  (try dsimp only)
  refine hQ _ _ _ (Fr.keep F9) ⟨⟨_, rfl⟩, [_], _, _, _, N9.get (by k_mem), N9.get (by k_mem), N9.get (by k_mem), O9, fun p hp => ?_⟩
  rw [List.mem_singleton.mp hp]
  exact ⟨N9.get (.head _), N9.fresh (.head _), ⟨by (try dsimp only); omega, by (try dsimp only); omega, by (try dsimp only); omega⟩⟩
end
end Mine
end
-- text LawPre
section
open PySem PySem.W PySem.Calls PyProof.Rows
set_option Elab.async false
set_option maxRecDepth 100000
set_option linter.unusedVariables false
namespace Mine
section
variable {w : World} {mean : ExcName → Option Value} {mg mb : Str → Option Value} {A₀ : Around} {base g : Heap} {fr : List Env} {env : Env} {L : Addr} {m : Str → Option Value} {news : List (Addr × Obj)} {s : Shared}
   {dp un : Nat} {gd : Option (List Code)} {Q E : Value → Shared → Prop}
theorem draw_useN {gf : Obj → List (Addr × Obj)} {o : Obj} {d c : Addr} {t6 : Tok} {k b many : Int} {vs : List Value} {ns : List Int} {n : Nat}
   (B : Below A₀ base fr g) (F : Fr g L s.heap m) (X : (hd.heap_39 w.params).In g) (T : TT mean mg mb g) (N : News g L s.heap news) (hf : env.frame = some L) (hke : env.scope.kind = .function)
   (U : UpdF d o news gf) (ho : FeedObj w c b k o) (hc : (c, PySem.W.listOf (List.toArray vs) n) ∈ news) (hcd : @Ne Nat c d) (hi : IntsAre vs ns) (hlen : ns.length ≤ 63) (hb : 0 ≤ b) (hb' : b ≤ 100000) (hk : 0 ≤ k) (hk' : k ≤ 1000) (hm : 1 ≤ many) (hm' : many ≤ 1000)
   (hd' : dp + 2 < recursionLimit) (hu : un + 10 < cLine)
   (kk : ∀ x t h' o' tk', 0 ≤ x → x < many → Fr g L h' m → News g L h' (gf o') → FeedObj w c b (k + 1) o' → Q (.int x t) { s with heap := h', toks := tk' }) :
   wpAny (model PG w) (ar dp un gd (env :: fr)) (call (.ref 131) [.ref d, .int many t6]) Q E s :=
  use1 (P := FeedObj w c b (k + 1)) (P₁ := FeedObj w c b k) (P₀ := fun g => g.IsList c vs.toArray) (PV := fun _ v _ => ∃ t, v = .int (drawV ns b k many) t) (draw_ctr w mean mg mb d c t6 k b many vs ns hk hk' hb hb' hm hm' hlen hi)
    B F X T N hf hke U hd' hu ho (fun g₂ st kp => ⟨_, kp _ hc hcd, rfl, n, rfl⟩) fun v h' o' tk' F' N' _ hv ho' => by
      obtain ⟨t, rfl⟩ := hv
      exact kk _ t h' o' tk' (drawV_lt (by omega)).1 (drawV_lt (by omega)).2 F' N' ho'
theorem sum_bound : ∀ zs : List Int, (∀ z ∈ zs, 0 ≤ z ∧ z ≤ 96) → 0 ≤ zs.sum ∧ zs.sum ≤ 96 * (zs.length : Int)
  | [], _ => by simp
  | z :: r, h => by
    have ih := sum_bound r fun y hy => h y (.tail _ hy)
    have hz := h z (.head _)
    rw [List.sum_cons, List.length_cons]
    constructor
    · omega
    · have : ((r.length + 1 : Nat) : Int) = (r.length : Int) + 1 := by omega
      rw [this]; omega
theorem bound_add {zs : List Int} {y : Int} (h : ∀ z ∈ zs, 0 ≤ z ∧ z ≤ 96) (h0 : 0 ≤ y) (h1 : y ≤ 96) : ∀ z ∈ zs ++ [y], 0 ≤ z ∧ z ≤ 96 := fun z hz => by
  rcases List.mem_append.mp hz with hz | hz
  · exact h z hz
  · rw [List.mem_singleton.mp hz]; exact ⟨h0, h1⟩
theorem feed_start {w : World} {c : Addr} {b : Int} {t2 t3 : Tok} {o : Obj} (h : o.IsDictOf (PySem.strKind PG w) [(Str.ofString "cells", .ref c), (Str.ofString "count", .int 0 t2), (Str.ofString "blend", .int b t3)]) : FeedObj w c b 0 o := ⟨t2, t3, h⟩
end
end Mine
end
-- text LawSeq
section
open PySem PySem.W PySem.Calls PyProof.Rows
set_option Elab.async false
set_option maxRecDepth 100000
set_option linter.unusedVariables false
namespace Mine
/-- behind a statement that goes on -/
noncomputable def Post (I : Shared → Prop) (f : Flow) (s' : Shared) : Prop := f = .next ∧ I s'
noncomputable def PostV {α : Type} (I : α → Shared → Prop) (v : α) (s' : Shared) : Prop := I v s'
theorem PostV.mk {α : Type} {I : α → Shared → Prop} {v : α} {s' : Shared} (h : I v s') : PostV I v s' := h
theorem Post.mk {I : Shared → Prop} {s' : Shared} (h : I s') : Post I .next s' := ⟨rfl, h⟩
section
variable {w : World} {A : Around} {E : Value → Shared → Prop} {s : Shared} {env : Env} {Q : Flow → Shared → Prop}
theorem seq_step (I : Shared → Prop) {st : Stmt} {rest : List Stmt} (h1 : wpAny (model PG w) A (exec st env) (Post I) E s) (h2 : ∀ s', I s' → wpAny (model PG w) A (execs rest env) Q E s') :
    wpAny (model PG w) A (execs (st :: rest) env) Q E s :=
  wpAny_execs_cons (wpAny_mono h1 (fun f s' h => by obtain ⟨rfl, h⟩ := h; exact h2 s' h) fun _ _ e => e)
/-- behind an expression: what its value and its state are -/
theorem val_step {α : Type} (I : α → Shared → Prop) {t : Sem α} {Q : α → Shared → Prop} (h1 : wpAny (model PG w) A t (PostV I) E s) (h2 : ∀ v s', I v s' → Q v s') : wpAny (model PG w) A t Q E s :=
  wpAny_mono h1 h2 fun _ _ e => e
theorem news_sub {g h : Heap} {L : Addr} {l l' : List (Addr × Obj)} (N : News g L h l) (k : ∀ p ∈ l', p ∈ l) : News g L h l' := fun p hp => N p (k p hp)
end
end Mine
namespace Mine
theorem sub_nil {W : List (Addr × Obj)} : ∀ q ∈ ([] : List (Addr × Obj)), q ∈ W := fun _ h => nomatch h
/-- the ledger ahead of the tables -/
noncomputable abbrev lst2 (a : NA) (d : Addr) (L : Nat) (od ok op on cr ck ct : Obj) (W : List (Addr × Obj)) : List (Addr × Obj) :=
  (d, od) :: (a.ks, ok) :: (a.ps, op) :: (a.kn, on) :: (L + 1 + 1 + 1 + 1, cr) :: (L + 1 + 1 + 1, ck) :: (L + 1 + 1, ct) :: W
noncomputable def xs2 (a : NA) (d : Addr) (L : Nat) : List Addr := [d, a.ks, a.ps, a.kn, L + 1 + 1 + 1 + 1, L + 1 + 1 + 1, L + 1 + 1]
structure Pre2 (w : World) (a : NA) (d : Addr) (L : Nat) (c0 : Addr) (cvs : List Value) (b : Int) (W tl : List (Addr × Obj)) (c : Circ) (k : Int) (od ok op on : Obj) : Prop where
  fd : FeedObj w c0 b k od
  net : NetObj w tl ok op on c
  off : OwnOff W (xs2 a d L)
  nd : (xs2 a d L).Nodup
  tlW : ∀ p ∈ tl, p ∈ W
  nN : NetN W a
  cl : ∃ n, (c0, PySem.W.listOf (List.toArray cvs) n) ∈ W
  cell : ∃ o, (L + 1, o) ∈ W ∧ o.data = .cell (some (.ref a.net))
noncomputable def circ0 : Circ := ⟨[Str.ofString "", Str.ofString "true"], [[], []], []⟩
end Mine
namespace Mine
theorem s2_end {w : World} {g h : Heap} {L : Nat} {DT dk lp t2 t1 lk x dd D d : Addr} {oT on od cr ck ct oN : Obj} {cvs : List Value} {np nk n : Nat} {k1 k2 k3 k4 k5 : Tok} {h1 h2 h3 : Int} {n1 : Nat} {b : Int}
    (N : News g L h ((DT, oT) :: (dk, on) :: (lp, PySem.W.listOf #[.ref t1, .ref t2] np) :: (t2, { cls := .type "tuple", data := .seq #[] }) :: (t1, { cls := .type "tuple", data := .seq #[] }) :: (lk, PySem.W.listOf #[.str "" k1, .str "true" k2] nk) :: (x, instObj 120 dd) :: (dd, dictOf [⟨h1, .str "kinds" k3, .ref lk⟩, ⟨h2, .str "parts_now" k4, .ref lp⟩, ⟨h3, .str "known" k5, .ref dk⟩] n) ::
      (D, PySem.W.listOf (List.toArray cvs) n1) :: (d, od) :: (L + 1 + 1 + 1 + 1, cr) :: (L + 1 + 1 + 1, ck) :: (L + 1 + 1, ct) :: (L + 1, oN) :: []))
    (fd : FeedObj w D b 1 od) (hk : on.IsDictOf (intKind PG w) []) (lo : (dk == sysModules) = false) (hN : oN.data = .cell (some (.ref x)))
    (i : @LT.lt Nat _ lp dk ∧ @LT.lt Nat _ t2 lp ∧ @LT.lt Nat _ t1 t2 ∧ @LT.lt Nat _ lk t1 ∧ @LT.lt Nat _ x lk ∧ @LT.lt Nat _ dd lk ∧ @Ne Nat x dd ∧ @LT.lt Nat _ D x ∧ @LT.lt Nat _ D dd ∧ @LT.lt Nat _ d D ∧ @LT.lt Nat _ (L + 1 + 1 + 1 + 1) d) :
    ∃ a od' ok op on W tl, News g L h (lst2 a d L od' ok op on cr ck ct W) ∧ Pre2 w a d L D cvs b W tl circ0 1 od' ok op on := by
  obtain ⟨i1, i2, i3, i4, i5, i6, i7, i8, i9, i10, i11⟩ := i
  have mtl : ∀ p ∈ ([(t1, { cls := .type "tuple", data := .seq #[] }), (t2, { cls := .type "tuple", data := .seq #[] })] : List (Addr × Obj)), p.2.cls = .type "tuple" := fun p hp => by
    simp only [List.mem_cons, List.not_mem_nil, or_false] at hp
    rcases hp with rfl | rfl <;> rfl
  refine ⟨⟨x, dd, lk, lp, dk⟩, od, _, _, on, [(L + 1, oN), (x, instObj 120 dd), (dd, dictOf [⟨h1, .str "kinds" k3, .ref lk⟩, ⟨h2, .str "parts_now" k4, .ref lp⟩, ⟨h3, .str "known" k5, .ref dk⟩] n), (t1, { cls := .type "tuple", data := .seq #[] }), (t2, { cls := .type "tuple", data := .seq #[] }), (D, PySem.W.listOf (List.toArray cvs) n1)],
    [(t1, { cls := .type "tuple", data := .seq #[] }), (t2, { cls := .type "tuple", data := .seq #[] })], news_sub N ?_, fd, ⟨⟨[.str "" k1, .str "true" k2], nk, rfl, .cons _ _ (.cons _ _ .nil)⟩, ⟨[.ref t1, .ref t2], np, rfl, .cons (.head _) ⟨[], 0, rfl, .nil⟩ (.cons (.tail _ (.head _)) ⟨[], 0, rfl, .nil⟩ .nil)⟩, ?_, mtl⟩, ?_, ?_, ?_, ?_, ⟨n1, by simp⟩, ⟨oN, by simp, hN⟩⟩
  · simp only [lst2]
    repeat (first | exact sub_nil | refine sub_cons (by k_mem) ?_)
  · obtain ⟨es, ep, he, hd, _, hp, _⟩ := hk
    refine ⟨es, ep, [], he, hd, ?_, fun x hx => (nomatch hx), .nil, by simp [circ0]⟩
    cases hes : es.toList with
    | nil => rfl
    | cons y r => rw [hes] at hp; cases hp
  · intro p hp q hq
    simp only [xs2] at hq
    simp only [List.mem_cons, List.not_mem_nil, or_false] at hp hq
    rcases hp with rfl | rfl | rfl | rfl | rfl | rfl <;> rcases hq with rfl | rfl | rfl | rfl | rfl | rfl | rfl <;> (refine neN ?_; (try dsimp only); omega)
  · simp only [xs2]
    simp only [List.nodup_cons, List.mem_cons, List.not_mem_nil, or_false, not_or, not_false_eq_true, List.nodup_nil, and_true]
    refine ⟨⟨?_, ?_, ?_, ?_, ?_, ?_⟩, ⟨?_, ?_, ?_, ?_, ?_⟩, ⟨?_, ?_, ?_, ?_⟩, ⟨?_, ?_, ?_⟩, ⟨?_, ?_⟩, ?_⟩ <;> (refine neN ?_; omega)
  · intro p hp
    simp only [List.mem_cons, List.not_mem_nil, or_false] at hp ⊢
    rcases hp with rfl | rfl <;> simp
  · exact ⟨by simp, ⟨h1, k3, h2, k4, h3, k5, n, by simp⟩, ⟨neN (by (try dsimp only); omega), neN (by (try dsimp only); omega), neN (by (try dsimp only); omega)⟩, ⟨neN (by (try dsimp only); omega), neN (by (try dsimp only); omega), neN (by (try dsimp only); omega)⟩, neN (by (try dsimp only); omega), neN (by (try dsimp only); omega), neN (by (try dsimp only); omega), lo⟩
end Mine
end
-- text LawSeq2
section
open PySem PySem.W PySem.Calls PyProof.Rows
set_option Elab.async false
set_option maxRecDepth 100000
set_option linter.unusedVariables false
namespace Mine
theorem off3_mem {I C D : Addr} : ∀ {l : List (Addr × Obj)}, LCg.Off3 I C D l → ∀ p ∈ l, @Ne Nat p.1 I ∧ @Ne Nat p.1 C ∧ @Ne Nat p.1 D
  | [], _, p, hp => nomatch hp
  | q :: r, h, p, hp => by
    rcases List.mem_cons.mp hp with rfl | hp
    · exact h.1
    · exact off3_mem h.2 p hp
theorem off3_of {I C D : Addr} : ∀ {l : List (Addr × Obj)}, (∀ p ∈ l, @Ne Nat p.1 I ∧ @Ne Nat p.1 C ∧ @Ne Nat p.1 D) → LCg.Off3 I C D l
  | [], _ => trivial
  | q :: r, h => ⟨h q (.head _), off3_of fun p hp => h p (.tail _ hp)⟩
noncomputable def circI : Nat → Circ
  | 0 => circ0
  | i + 1 => newInput (circI i)
theorem circI_kinds : ∀ i, (circI i).kinds.length = i + 2
  | 0 => rfl
  | i + 1 => by simp [circI, newInput, circI_kinds i]
theorem circI_parts : ∀ i, (circI i).parts.length = i + 2
  | 0 => rfl
  | i + 1 => by simp [circI, newInput, circI_parts i]
theorem circI_known : ∀ i, (circI i).known = []
  | 0 => rfl
  | i + 1 => by simp [circI, newInput, circI_known i]
theorem circI_small (i : Nat) (h : i ≤ 10) : Small (circI i) 20 := by
  unfold Small; rw [circI_kinds, circI_parts, circI_known]; simp; omega
noncomputable def insI (i : Nat) : List Int := (List.range i).map fun (j : Nat) => (2 + (j : Int))
theorem insI_succ (i : Nat) : insI (i + 1) = insI i ++ [((circI i).kinds.length : Int)] := by
  rw [circI_kinds, insI, List.range_succ, List.map_append]
  simp [insI]; omega
section
variable {w : World} {mean : ExcName → Option Value} {mg mb : Str → Option Value} {base g : Heap} {dp un : Nat} {gd : Option (List Code)} {fr : List Env} {s : Shared}
variable {a : NA} {d c0 : Addr} {L2 : Nat} {cvs : List Value} {b : Int} {W tl : List (Addr × Obj)} {c : Circ} {kk : Int} {od ok op on cr ck ct : Obj} {A₀ : Around} {env : Env} {L : Addr} {m : Str → Option Value} {Q E : Value → Shared → Prop}
theorem Pre2.more {W' : List (Addr × Obj)} (J : Pre2 w a d L2 c0 cvs b W tl c kk od ok op on) (s : ∀ p ∈ W, p ∈ W') (o : OwnOff W' (xs2 a d L2)) : Pre2 w a d L2 c0 cvs b W' tl c kk od ok op on :=
  { J with off := o, tlW := fun p hp => s p (J.tlW p hp), nN := J.nN.mono s, cl := let ⟨n, h⟩ := J.cl; ⟨n, s _ h⟩, cell := let ⟨o, h, e⟩ := J.cell; ⟨o, s _ h, e⟩ }
theorem Pre2.ne3 (J : Pre2 w a d L2 c0 cvs b W tl c kk od ok op on) {p : Addr × Obj} (hp : p ∈ W) : Ne3 a p.1 := ⟨J.off p hp _ (by simp [xs2]), J.off p hp _ (by simp [xs2]), J.off p hp _ (by simp [xs2])⟩
theorem lst2_W {p : Addr × Obj} (hp : p ∈ W) : p ∈ lst2 a d L2 od ok op on cr ck ct W := by simp only [lst2, List.mem_cons]; exact .inr (.inr (.inr (.inr (.inr (.inr (.inr hp))))))
theorem lst2_has (q : Addr) (hq : q ∈ xs2 a d L2) : ∃ o, (q, o) ∈ lst2 a d L2 od ok op on cr ck ct W := by
  simp only [xs2, List.mem_cons, List.not_mem_nil, or_false] at hq
  rcases hq with rfl | rfl | rfl | rfl | rfl | rfl | rfl
  · exact ⟨od, by simp [lst2]⟩
  · exact ⟨ok, by simp [lst2]⟩
  · exact ⟨op, by simp [lst2]⟩
  · exact ⟨on, by simp [lst2]⟩
  · exact ⟨cr, by simp [lst2]⟩
  · exact ⟨ck, by simp [lst2]⟩
  · exact ⟨ct, by simp [lst2]⟩
theorem pre_input {p1 p2 p3 : Addr × Obj} {n : Nat}
    (B : Below A₀ base fr g) (F : Fr g L s.heap m) (X : (hd.heap_39 w.params).In g) (T : TT mean mg mb g) (N : News g L s.heap (p1 :: p2 :: p3 :: lst2 a d L2 od ok op on cr ck ct W)) (hf : env.frame = some L) (hke : env.scope.kind = .function)
    (hd' : dp + 6 < recursionLimit) (hu : un + 50 < cLine) (J : Pre2 w a d L2 c0 cvs b W tl c kk od ok op on) (hs : Small c n) (hz : n ≤ 890) (off : LCg.Off3 p1.1 p2.1 p3.1 (lst2 a d L2 od ok op on cr ck ct W))
    (k : ∀ t h' tk' ok' op' on' add, Fr g L h' m → News g L h' (p1 :: p2 :: p3 :: lst2 a d L2 od ok' op' on' cr ck ct (add ++ W)) → Pre2 w a d L2 c0 cvs b (add ++ W) (add ++ tl) (newInput c) kk od ok' op' on' → LCg.Off3 p1.1 p2.1 p3.1 (lst2 a d L2 od ok' op' on' cr ck ct (add ++ W)) → Q (.int (c.kinds.length : Int) t) { s with heap := h', toks := tk' }) :
    wpAny (model PG w) (ar dp un gd (env :: fr)) (call (.ref 63) [.ref a.net]) Q E s := by
  have ho := off3_mem off
  have nd := J.nd
  simp only [xs2, List.nodup_cons, List.mem_cons, List.not_mem_nil, or_false, not_or, not_false_eq_true, List.nodup_nil, and_true] at nd
  obtain ⟨⟨a1, a2, a3, _, _, _⟩, ⟨b1, b2, b3, b4, b5⟩, ⟨c1, c2, c3, c4⟩, ⟨d1, d2, d3⟩, _, _⟩ := nd
  have q1 := ho (a.ks, ok) (by simp [lst2])
  have q2 := ho (a.ps, op) (by simp [lst2])
  have q3 := ho (a.kn, on) (by simp [lst2])
  refine use_netM (P₀ := fun _ => True) (res := (newInput c, (c.kinds.length : Int))) (new_input_ctr w mean mg mb a tl c n hs hz) B F X T N hf hke (by simp [lst2]) (by simp [lst2]) (by simp [lst2])
    (.skip (Ne.symm q1.1) (Ne.symm q2.1) (Ne.symm q3.1) (.skip (Ne.symm q1.2.1) (Ne.symm q2.2.1) (Ne.symm q3.2.1) (.skip (Ne.symm q1.2.2) (Ne.symm q2.2.2) (Ne.symm q3.2.2) (.skip a1 a2 a3 (.one (.two (.three (.skip (Ne.symm b3) (Ne.symm c2) (Ne.symm d1) (.skip (Ne.symm b4) (Ne.symm c3) (Ne.symm d2) (.skip (Ne.symm b5) (Ne.symm c4) (Ne.symm d3) .tail)))))))))) J.net
    ⟨fun p hp => .inl (J.tlW p hp), fun p hp => J.ne3 hp⟩ hd' hu
    (fun g₂ st' kp => ⟨J.nN.G fun p hp n3 => kp p (.tail _ (.tail _ (.tail _ (lst2_W hp)))) n3.1 n3.2.1 n3.2.2, trivial⟩) ?_
  intro t h' tk' ok' op' on' add F' N' O' _ hne
  have hadd : OwnOff add (xs2 a d L2) := fun p hp x hx e => by
    obtain ⟨o, ho⟩ := lst2_has (od := od) (ok := ok) (op := op) (on := on) (cr := cr) (ck := ck) (ct := ct) (W := W) x hx
    exact hne p hp _ (.tail _ (.tail _ (.tail _ ho))) e
  refine k t h' tk' ok' op' on' add F' N' { (J.more (fun p hp => List.mem_append_right add hp) (off_app hadd J.off)) with net := O', tlW := fun p hp => (List.mem_append.mp hp).elim (fun h => List.mem_append_left _ h) fun h => List.mem_append_right _ (J.tlW p h) } (off3_of fun p hp => ?_)
  simp only [lst2, List.mem_cons, List.mem_append] at hp
  rcases hp with rfl | rfl | rfl | rfl | rfl | rfl | rfl | hp | hp
  · exact ho (d, od) (by simp [lst2])
  · exact q1
  · exact q2
  · exact q3
  · exact ho (_, cr) (by simp [lst2])
  · exact ho (_, ck) (by simp [lst2])
  · exact ho (_, ct) (by simp [lst2])
  · exact ⟨hne p hp p1 (.head _), hne p hp p2 (.tail _ (.head _)), hne p hp p3 (.tail _ (.tail _ (.head _)))⟩
  · exact ho p (lst2_W hp)
theorem news_swap2 {p : Addr × Obj} {h : Heap} (N : News g L h (p :: lst2 a d L2 od ok op on cr ck ct W)) : News g L h (lst2 a d L2 od ok op on cr ck ct (p :: W)) := fun q hq => by
  simp only [lst2, List.mem_cons] at hq
  rcases hq with h | h | h | h | h | h | h | rfl | hq
  · subst h; exact N _ (List.mem_cons_of_mem _ (by simp [lst2]))
  · subst h; exact N _ (List.mem_cons_of_mem _ (by simp [lst2]))
  · subst h; exact N _ (List.mem_cons_of_mem _ (by simp [lst2]))
  · subst h; exact N _ (List.mem_cons_of_mem _ (by simp [lst2]))
  · subst h; exact N _ (List.mem_cons_of_mem _ (by simp [lst2]))
  · subst h; exact N _ (List.mem_cons_of_mem _ (by simp [lst2]))
  · subst h; exact N _ (List.mem_cons_of_mem _ (by simp [lst2]))
  · exact N q (.head _)
  · exact N q (.tail _ (lst2_W hq))
theorem off1_all {D : Addr} (o : LCg.Off1 D (lst2 a d L2 od ok op on cr ck ct W)) : ∀ q ∈ xs2 a d L2, D ≠ q := fun q hq e => by
  obtain ⟨x, hx⟩ := lst2_has (od := od) (ok := ok) (op := op) (on := on) (cr := cr) (ck := ck) (ct := ct) (W := W) q hq
  exact off1_mem o _ hx e.symm
end
end Mine
namespace Mine
theorem Pre2.readN {w : World} {a : NA} {d c0 : Addr} {L2 : Nat} {cvs : List Value} {b : Int} {W tl l : List (Addr × Obj)} {c : Circ} {kk : Int} {od ok op on cr ck ct : Obj} {g h : Heap} {L : Addr} (J : Pre2 w a d L2 c0 cvs b W tl c kk od ok op on)
    (N : News g L h l) (s : ∀ p ∈ lst2 a d L2 od ok op on cr ck ct W, p ∈ l) : NetRead w h a tl c where
  G := J.nN.G fun p hp _ => N.get (s _ (lst2_W hp))
  objs := ⟨ok, op, on, N.get (s _ (by simp [lst2])), N.get (s _ (by simp [lst2])), N.get (s _ (by simp [lst2])), J.net⟩
  pool := fun p hp => N.get (s _ (lst2_W (J.tlW p hp)))
theorem circI_kind1 : ∀ i, (circI i).kinds[1]? = some (Str.ofString "true")
  | 0 => rfl
  | i + 1 => by
    show ((circI i).kinds ++ [Str.ofString "input"])[1]? = _
    rw [List.getElem?_append_left (by rw [circI_kinds]; omega)]; exact circI_kind1 i
theorem circI_part1 : ∀ i, (circI i).parts[1]? = some []
  | 0 => rfl
  | i + 1 => by
    show ((circI i).parts ++ [[]])[1]? = _
    rw [List.getElem?_append_left (by rw [circI_parts]; omega)]; exact circI_part1 i
end Mine
namespace Mine
theorem apart2 {a : NA} {d : Addr} {L : Nat} (h : (xs2 a d L).Nodup) :
    (@Ne Nat d a.ks ∧ @Ne Nat d a.ps ∧ @Ne Nat d a.kn ∧ @Ne Nat d (L + 1 + 1 + 1 + 1) ∧ @Ne Nat d (L + 1 + 1 + 1) ∧ @Ne Nat d (L + 1 + 1)) ∧ (@Ne Nat a.ks a.ps ∧ @Ne Nat a.ks a.kn ∧ @Ne Nat a.ks (L + 1 + 1 + 1 + 1) ∧ @Ne Nat a.ks (L + 1 + 1 + 1) ∧ @Ne Nat a.ks (L + 1 + 1)) ∧
      (@Ne Nat a.ps a.kn ∧ @Ne Nat a.ps (L + 1 + 1 + 1 + 1) ∧ @Ne Nat a.ps (L + 1 + 1 + 1) ∧ @Ne Nat a.ps (L + 1 + 1)) ∧ (@Ne Nat a.kn (L + 1 + 1 + 1 + 1) ∧ @Ne Nat a.kn (L + 1 + 1 + 1) ∧ @Ne Nat a.kn (L + 1 + 1)) := by
  simp only [xs2, List.nodup_cons, List.mem_cons, List.not_mem_nil, or_false, not_or, not_false_eq_true, List.nodup_nil, and_true] at h
  obtain ⟨a1, a2, a3, a4, _⟩ := h
  exact ⟨a1, a2, a3, a4⟩
noncomputable def tsI (R : Nat) (i : Nat) : List (List Bool) := [] :: List.replicate R true :: (List.range i).map fun k => (List.range R).map fun row => decide (row / 2 ^ k % 2 = 1)
/-- the state ahead of the tables' rows -/
structure Pre3 (w : World) (A : LA) (L : Nat) (c0 : Addr) (cvs : List Value) (b : Int) (W tl rl : List (Addr × Obj)) (st : LS) (ot os oo od ok op on : Obj) : Prop where
  led : Led w A c0 cvs b W tl rl st ot os oo od ok op on
  cr : A.cr = L + 1 + 1 + 1 + 1
  offk : ∀ p ∈ W, @Ne Nat p.1 (L + 1 + 1 + 1)
  offx : ∀ x ∈ A.xs, @Ne Nat x (L + 1 + 1 + 1)
  net : ∃ o, (L + 1, o) ∈ W ∧ o.data = .cell (some (.ref A.net.net))
  tab : ∃ o, (L + 1 + 1, o) ∈ W ∧ o.data = .cell (some (.ref A.tb))
theorem flat_true : ∀ n : Nat, (List.replicate n [Value.bool true]).flatten = (List.replicate n true).map Value.bool
  | 0 => rfl
  | n + 1 => by rw [List.replicate_succ, List.flatten_cons, flat_true n, List.replicate_succ]; rfl
theorem s6_end {w : World} {g h : Heap} {L : Nat} {DT so o1 sb tb r1 l3 r0 d D : Addr} {oT x1 x3 od ok op on cr ck ct : Obj} {cvs wss : List Value} {W tl : List (Addr × Obj)} {a : NA} {n R : Nat} {b : Int}
    (N : News g L h ((DT, oT) :: (so, PySem.W.listOf (List.toArray wss) 0) :: (o1, x1) :: (sb, PySem.W.listOf #[] 0) :: (tb, PySem.W.listOf #[.ref r0, .ref r1] 0) :: (r1, PySem.W.listOf (List.replicate (R : Int).toNat [Value.bool true]).flatten.toArray 0) :: (l3, x3) :: (r0, PySem.W.listOf #[] 0) :: lst2 a d L od ok op on cr ck ct W))
    (J : Pre2 w a d L D cvs b W tl (circI n) 1 od ok op on) (hI : IntsAre wss ([1] ++ insI n)) (hct : ct.data = .cell (some (.ref tb)))
    (i : @LT.lt Nat _ sb so ∧ @LT.lt Nat _ tb sb ∧ @LT.lt Nat _ r1 tb ∧ @LT.lt Nat _ r0 r1) (j : ∀ x ∈ xs2 a d L, @LT.lt Nat _ x r0) (jw : ∀ p ∈ W, @LT.lt Nat _ p.1 r0) (jl : @LT.lt Nat _ (L + 1) r0) (hW2 : ∀ p ∈ W, @Ne Nat p.1 (L + 1 + 1)) :
    News g L h ((L + 1 + 1 + 1, ck) :: lst ⟨a, tb, sb, so, d, L + 1 + 1 + 1 + 1⟩ (PySem.W.listOf #[.ref r0, .ref r1] 0) (PySem.W.listOf #[] 0) (PySem.W.listOf (List.toArray wss) 0) od ok op on cr ((L + 1 + 1, ct) :: (r1, PySem.W.listOf (List.replicate (R : Int).toNat [Value.bool true]).flatten.toArray 0) :: (r0, PySem.W.listOf #[] 0) :: W)) ∧
    Pre3 w ⟨a, tb, sb, so, d, L + 1 + 1 + 1 + 1⟩ L D cvs b ((L + 1 + 1, ct) :: (r1, PySem.W.listOf (List.replicate (R : Int).toNat [Value.bool true]).flatten.toArray 0) :: (r0, PySem.W.listOf #[] 0) :: W) tl [(r0, PySem.W.listOf #[] 0), (r1, PySem.W.listOf (List.replicate (R : Int).toNat [Value.bool true]).flatten.toArray 0)]
      ⟨circI n, tsI R 0, [], 1 :: insI n, 1⟩ (PySem.W.listOf #[.ref r0, .ref r1] 0) (PySem.W.listOf #[] 0) (PySem.W.listOf (List.toArray wss) 0) od ok op on := by
  obtain ⟨i1, i2, i3, i4⟩ := i
  have A := apart2 J.nd
  simp only [xs2, List.forall_mem_cons, List.not_mem_nil, false_implies, implies_true, and_true] at j
  obtain ⟨j1, j2, j3, j4, j5, j6, j7⟩ := j
  have hoff := J.off
  have K : ∀ x : Addr, @LT.lt Nat _ r0 x ∨ @Eq Nat r0 x → ∀ p ∈ W, @Ne Nat p.1 x := fun x hx p hp => by
    have := jw p hp
    refine neN ?_
    rcases hx with hx | hx <;> omega
  have W0 : ∀ x ∈ xs2 a d L, ∀ p ∈ W, @Ne Nat p.1 x := fun x hx p hp => J.off p hp x hx
  refine ⟨news_sub N ?_, ⟨⟨⟨[.ref r0, .ref r1], 0, rfl, ?_⟩, ⟨[], 0, rfl, .nil⟩, ⟨wss, 0, rfl, hI⟩, J.fd, J.net, ?_, ?_, fun p hp => .tail _ (.tail _ (.tail _ (J.tlW p hp))), ?_, J.nN.mono fun p hp => .tail _ (.tail _ (.tail _ hp)), ?_⟩, rfl, ?_, ?_, ?_, ⟨ct, .head _, hct⟩⟩⟩
  · simp only [lst, lst2]
    intro p hp
    simp only [List.mem_cons] at hp ⊢
    rcases hp with h | h | h | h | h | h | h | h | h | h | h | h | h <;> simp only [h, true_or, or_true]
  · refine .cons (bs := []) (n := 0) (.head _) (.cons (bs := List.replicate R true) (n := 0) (.tail _ ?_) .nil)
    rw [flat_true]; exact .head _
  · refine off_cons ?_ (off_cons ?_ (off_cons ?_ fun p hp => ?_))
    · simp only [LA.xs, List.forall_mem_cons, List.not_mem_nil, false_implies, implies_true, and_true]
      exact ⟨neN (by omega), neN (by omega), neN (by omega), neN (by omega), neN (by omega), neN (by omega), neN (by omega), neN (by omega)⟩
    · simp only [LA.xs, List.forall_mem_cons, List.not_mem_nil, false_implies, implies_true, and_true]
      exact ⟨neN (by omega), neN (by omega), neN (by omega), neN (by omega), neN (by omega), neN (by omega), neN (by omega), neN (by omega)⟩
    · simp only [LA.xs, List.forall_mem_cons, List.not_mem_nil, false_implies, implies_true, and_true]
      exact ⟨neN (by omega), neN (by omega), neN (by omega), neN (by omega), neN (by omega), neN (by omega), neN (by omega), neN (by omega)⟩
    · simp only [LA.xs, List.forall_mem_cons, List.not_mem_nil, false_implies, implies_true, and_true]
      exact ⟨K _ (.inl (by omega)) p hp, K _ (.inl (by omega)) p hp, K _ (.inl (by omega)) p hp, W0 _ (by simp [xs2]) p hp, W0 _ (by simp [xs2]) p hp, W0 _ (by simp [xs2]) p hp, W0 _ (by simp [xs2]) p hp, W0 _ (by simp [xs2]) p hp⟩
  · simp only [LA.xs, List.nodup_cons, List.mem_cons, List.not_mem_nil, or_false, not_or, not_false_eq_true, List.nodup_nil, and_true]
    exact ⟨⟨neN (by omega), neN (by omega), neN (by omega), neN (by omega), neN (by omega), neN (by omega), neN (by omega)⟩, ⟨neN (by omega), neN (by omega), neN (by omega), neN (by omega), neN (by omega), neN (by omega)⟩, ⟨neN (by omega), neN (by omega), neN (by omega), neN (by omega), neN (by omega)⟩, ⟨neN (by omega), neN (by omega), neN (by omega), neN (by omega)⟩, ⟨neN (by omega), neN (by omega), neN (by omega)⟩, ⟨neN (by omega), neN (by omega)⟩, neN (by omega)⟩
  · intro p hp
    simp only [List.mem_cons, List.not_mem_nil, or_false] at hp ⊢
    rcases hp with h | h <;> simp only [h, true_or, or_true]
  · obtain ⟨n1, h⟩ := J.cl
    exact ⟨n1, .tail _ (.tail _ (.tail _ h))⟩
  · intro p hp
    rcases List.mem_cons.mp hp with rfl | hp
    · exact neN (by omega)
    rcases List.mem_cons.mp hp with rfl | hp
    · exact neN (by (try dsimp only); omega)
    rcases List.mem_cons.mp hp with rfl | hp
    · exact neN (by (try dsimp only); omega)
    · exact W0 _ (by simp [xs2]) p hp
  · simp only [LA.xs, List.forall_mem_cons, List.not_mem_nil, false_implies, implies_true, and_true]
    exact ⟨neN (by omega), neN (by omega), neN (by omega), neN (by omega), neN (by omega), neN (by omega), neN (by omega), neN (by omega)⟩
  · obtain ⟨o, h, e⟩ := J.cell
    exact ⟨o, .tail _ (.tail _ (.tail _ h)), e⟩
end Mine
namespace Mine
theorem allLt_mem {d : Addr} : ∀ {l : List (Addr × Obj)}, AllLt d l → ∀ p ∈ l, @LT.lt Nat _ p.1 d
  | [], _, _, hp => nomatch hp
  | q :: r, h, p, hp => by
    rcases List.mem_cons.mp hp with rfl | hp
    · exact h.1
    · exact allLt_mem h.2 p hp
end Mine
namespace Mine
structure K7 (A : LA) (L : Nat) (W : List (Addr × Obj)) : Prop where
  nd : A.xs.Nodup
  off : OwnOff W A.xs
  offk : ∀ p ∈ W, @Ne Nat p.1 (L + 1 + 1 + 1)
  offx : ∀ x ∈ A.xs, @Ne Nat x (L + 1 + 1 + 1)
section
variable {A : LA} {L : Nat} {W : List (Addr × Obj)} {ot os oo od ok op on cr ck oD : Obj} {D : Addr}
theorem upd_k (h : K7 A L W) : UpdF (L + 1 + 1 + 1) ck ((L + 1 + 1 + 1, ck) :: lst A ot os oo od ok op on cr W) (fun x => (L + 1 + 1 + 1, x) :: lst A ot os oo od ok op on cr W) :=
  .head fun p hp => (lst_addr p hp).elim (h.offx _) (h.offk _)
theorem upd_tb (h : K7 A L W) (hD : LCg.Off1 D ((L + 1 + 1 + 1, ck) :: lst A ot os oo od ok op on cr W)) : UpdF A.tb ot ((D, oD) :: (L + 1 + 1 + 1, ck) :: lst A ot os oo od ok op on cr W) (fun x => (D, oD) :: (L + 1 + 1 + 1, ck) :: lst A x os oo od ok op on cr W) := by
  obtain ⟨a1, a2, a3, a4, a5, a6, a7⟩ := (apart h.nd).t
  refine .tail (Ne.symm (off1_mem hD (A.tb, ot) (by simp [lst]))) (.tail (Ne.symm (h.offx _ (by simp [LA.xs]))) (.head ?_))
  exact all_cons (Ne.symm a1) (all_cons (Ne.symm a2) (all_cons (Ne.symm a3) (all_cons (Ne.symm a4) (all_cons (Ne.symm a5) (all_cons (Ne.symm a6) (all_cons (Ne.symm a7) (off_ne h.off (by simp [LA.xs]))))))))
end
section
variable {w : World} {A : LA} {L : Nat} {c0 : Addr} {cvs : List Value} {b : Int} {W tl rl : List (Addr × Obj)} {st : LS} {ot os oo od ok op on : Obj}
theorem Pre3.more {W' : List (Addr × Obj)} (J : Pre3 w A L c0 cvs b W tl rl st ot os oo od ok op on) (s : ∀ p ∈ W, p ∈ W') (o : OwnOff W' A.xs) (k : ∀ p ∈ W', @Ne Nat p.1 (L + 1 + 1 + 1)) : Pre3 w A L c0 cvs b W' tl rl st ot os oo od ok op on where
  led := J.led.more s o
  cr := J.cr
  offk := k
  offx := J.offx
  net := let ⟨o, h, e⟩ := J.net; ⟨o, s _ h, e⟩
  tab := let ⟨o, h, e⟩ := J.tab; ⟨o, s _ h, e⟩
theorem Pre3.k7 {own W9 : List (Addr × Obj)} {l : List Addr} (J : Pre3 w A L c0 cvs b W tl rl st ot os oo od ok op on) (e : W9 = W ++ own) (o : OwnOff own l) (hl : ∀ x ∈ A.xs, x ∈ l) (hk : L + 1 + 1 + 1 ∈ l) : K7 A L W9 where
  nd := J.led.nd
  off := e ▸ off_app J.led.off fun p hp x hx => o p hp x (hl x hx)
  offk := fun p hp => by
    subst e
    rcases List.mem_append.mp hp with hp | hp
    · exact J.offk p hp
    · exact o p hp _ hk
  offx := J.offx
end
end Mine
namespace Mine
theorem bit_eq (r i : Nat) : (((0 + (r : Int)).fdiv (2 ^ (0 + (i : Int)).toNat)).fmod 2 == 1) = decide (r / 2 ^ i % 2 = 1) := by
  have h1 : (0 + (i : Int)).toNat = i := by omega
  have h2 : (2 : Int) ^ i = ((2 ^ i : Nat) : Int) := by push_cast; rfl
  rw [h1, Int.zero_add, h2, Int.fdiv_eq_ediv_of_nonneg _ (Int.natCast_nonneg _), Int.fmod_eq_emod_of_nonneg _ (by decide), ← Int.natCast_ediv]
  rw [Bool.eq_iff_iff]
  simp only [beq_iff_eq, decide_eq_true_eq]
  omega
theorem bits_succ (r i : Nat) : ((List.range r).map fun row => decide (row / 2 ^ i % 2 = 1)).map Value.bool ++ [Value.bool (((0 + (r : Int)).fdiv (2 ^ (0 + (i : Int)).toNat)).fmod 2 == 1)] = ((List.range (r + 1)).map fun row => decide (row / 2 ^ i % 2 = 1)).map Value.bool := by
  rw [bit_eq, List.range_succ, List.map_append, List.map_append]; rfl
theorem tsI_succ (R i : Nat) : tsI R (i + 1) = tsI R i ++ [(List.range R).map fun row => decide (row / 2 ^ i % 2 = 1)] := by
  simp [tsI, List.range_succ]
theorem s7_turn {w : World} {g h : Heap} {A : LA} {L : Nat} {c0 K : Addr} {cvs rs : List Value} {b : Int} {W tl rl own W9 : List (Addr × Obj)} {c : Circ} {sn : List (List Int)} {ss : List Int} {kk : Int} {os oo od ok op on cr ck : Obj} {n1 R i : Nat}
    (J : Pre3 w A L c0 cvs b W tl rl ⟨c, tsI R i, sn, ss, kk⟩ (PySem.W.listOf (List.toArray rs) n1) os oo od ok op on) (hrs : RowsP rl rs (tsI R i)) (hW : W9 = W ++ own)
    (N : News g L h ((K, LCg.lst (((List.range R).map fun row => decide (row / 2 ^ i % 2 = 1)).map Value.bool)) :: (L + 1 + 1 + 1, ck) :: lst A (PySem.W.listOf (List.toArray (rs ++ [.ref K])) (n1 + 1)) os oo od ok op on cr W9))
    (o1 : LCg.Off1 K ((L + 1 + 1 + 1, ck) :: lst A (PySem.W.listOf (List.toArray rs) n1) os oo od ok op on cr W9)) :
    Pre3 w A L c0 cvs b ((K, LCg.lst (((List.range R).map fun row => decide (row / 2 ^ i % 2 = 1)).map Value.bool)) :: W) tl ((K, LCg.lst (((List.range R).map fun row => decide (row / 2 ^ i % 2 = 1)).map Value.bool)) :: rl) ⟨c, tsI R (i + 1), sn, ss, kk⟩ (PySem.W.listOf (List.toArray (rs ++ [.ref K])) (n1 + 1)) os oo od ok op on := by
  have hK : ∀ x ∈ A.xs, K ≠ x := fun x hx e => by
    obtain ⟨o, ho⟩ := lst_has (ot := PySem.W.listOf (List.toArray rs) n1) (os := os) (oo := oo) (od := od) (ok := ok) (op := op) (on := on) (orow := cr) (W := W9) x hx
    exact off1_mem o1 _ (.tail _ ho) e.symm
  have hK3 : @Ne Nat K (L + 1 + 1 + 1) := fun e => off1_mem o1 _ (.head _) e.symm
  have J' := J.more (W' := (K, LCg.lst (((List.range R).map fun row => decide (row / 2 ^ i % 2 = 1)).map Value.bool)) :: W) (fun p hp => .tail _ hp) (off_cons hK J.led.off) (fun p hp => by
    rcases List.mem_cons.mp hp with rfl | hp
    · exact hK3
    · exact J.offk p hp)
  refine { J' with led := { J'.led with tb := ⟨_, _, rfl, ?_⟩, rlW := fun p hp => ?_ } }
  · dsimp only
    rw [tsI_succ]
    exact (hrs.mono fun p hp => .tail _ hp).append (.cons (.head _) .nil)
  · rcases List.mem_cons.mp hp with rfl | hp
    · exact .head _
    · exact .tail _ (J.led.rlW p hp)
theorem s7_sub {A : LA} {L : Nat} {K : Addr} {oK ck ot os oo od ok op on cr : Obj} {W own W9 : List (Addr × Obj)} (hW : W9 = W ++ own) : ∀ p ∈ (L + 1 + 1 + 1, ck) :: lst A ot os oo od ok op on cr ((K, oK) :: W), p ∈ (K, oK) :: (L + 1 + 1 + 1, ck) :: lst A ot os oo od ok op on cr W9 := by
  intro p hp
  have hs : ∀ p ∈ W, p ∈ W9 := fun p hp => by rw [hW]; exact List.mem_append_left _ hp
  simp only [lst, List.mem_cons] at hp ⊢
  rcases hp with h | h | h | h | h | h | h | h | h | h | h
  all_goals first | (simp only [h, true_or, or_true]; done) | (simp only [hs _ h, or_true])
theorem s7_own {A : LA} {L : Nat} {K : Addr} {oK ck ot os oo od ok op on cr : Obj} {W own W9 : List (Addr × Obj)} (hW : W9 = W ++ own) : ∀ p ∈ own, p ∈ (K, oK) :: (L + 1 + 1 + 1, ck) :: lst A ot os oo od ok op on cr W9 := fun p hp =>
  .tail _ (.tail _ (lst_W (by rw [hW]; exact List.mem_append_right _ hp)))
theorem s7_off {A : LA} {L : Nat} {K : Addr} {oK ck ot os oo od ok op on cr ck' ot' os' oo' od' ok' op' on' cr' : Obj} {W own W9 : List (Addr × Obj)} (hW : W9 = W ++ own)
    (hoff : OwnOff own (((L + 1 + 1 + 1, ck) :: lst A ot os oo od ok op on cr W).map (·.1))) (o1 : LCg.Off1 K ((L + 1 + 1 + 1, ck) :: lst A ot os oo od ok op on cr W9)) :
    OwnOff own (((L + 1 + 1 + 1, ck') :: lst A ot' os' oo' od' ok' op' on' cr' ((K, oK) :: W)).map (·.1)) := fun p hp x hx => by
  have hp9 : p ∈ W9 := by rw [hW]; exact List.mem_append_right _ hp
  have hK : @Ne Nat p.1 K := off1_mem o1 p (.tail _ (lst_W hp9))
  have h0 := hoff p hp
  simp only [lst, List.map_cons, List.mem_cons] at hx h0
  rcases hx with h | h | h | h | h | h | h | h | h | h | h
  all_goals first | (exact h ▸ hK) | (refine h0 x ?_; simp only [h, true_or, or_true]; done)
end Mine
namespace Mine
theorem s7_absorb {g h : Heap} {L2 : Addr} {A : LA} {p : Addr × Obj} {ot os oo od ok op on cr : Obj} {W : List (Addr × Obj)} (N : News g L2 h (p :: lst A ot os oo od ok op on cr W)) : News g L2 h (lst A ot os oo od ok op on cr (p :: W)) := news_sub N fun q hq => by
  simp only [lst, List.mem_cons] at hq ⊢
  rcases hq with h | h | h | h | h | h | h | h | h | h
  all_goals (simp only [h, true_or, or_true])
/-- the state in the laps -/
structure Lap (w : World) (A : LA) (L : Nat) (c0 : Addr) (cvs : List Value) (b : Int) (W tl rl : List (Addr × Obj)) (st : LS) (ot os oo od ok op on : Obj) : Prop where
  led : Led w A c0 cvs b W tl rl st ot os oo od ok op on
  cr : A.cr = L + 1 + 1 + 1 + 1
  net : ∃ o, (L + 1, o) ∈ W ∧ o.data = .cell (some (.ref A.net.net))
  tab : ∃ o, (L + 1 + 1, o) ∈ W ∧ o.data = .cell (some (.ref A.tb))
section
variable {w : World} {A : LA} {L : Nat} {c0 : Addr} {cvs : List Value} {b : Int} {W tl rl : List (Addr × Obj)} {st : LS} {ot os oo od ok op on : Obj}
theorem Pre3.lap {p : Addr × Obj} (J : Pre3 w A L c0 cvs b W tl rl st ot os oo od ok op on) (hp : p.1 = L + 1 + 1 + 1) : Lap w A L c0 cvs b (p :: W) tl rl st ot os oo od ok op on where
  led := J.led.more (fun q hq => .tail _ hq) (off_cons (fun x hx e => J.offx x hx (e.symm.trans hp)) J.led.off)
  cr := J.cr
  net := let ⟨o, h, e⟩ := J.net; ⟨o, .tail _ h, e⟩
  tab := let ⟨o, h, e⟩ := J.tab; ⟨o, .tail _ h, e⟩
theorem Lap.of {W' tl' rl' : List (Addr × Obj)} {st' : LS} {ot' os' oo' od' ok' op' on' : Obj} (J : Lap w A L c0 cvs b W tl rl st ot os oo od ok op on) (K : Led w A c0 cvs b W' tl' rl' st' ot' os' oo' od' ok' op' on') (s : ∀ p ∈ W, p ∈ W') : Lap w A L c0 cvs b W' tl' rl' st' ot' os' oo' od' ok' op' on' where
  led := K
  cr := J.cr
  net := let ⟨o, h, e⟩ := J.net; ⟨o, s _ h, e⟩
  tab := let ⟨o, h, e⟩ := J.tab; ⟨o, s _ h, e⟩
end
end Mine
end
-- text PureDef
section
open PySem PySem.W PySem.Calls PyProof.Rows
set_option Elab.async false
set_option maxRecDepth 100000
set_option linter.unusedVariables false
namespace Mine
noncomputable def tsN (st : LS) (c' : Circ) : List (List Bool) × List (List Int) := growN c' st.ts st.sn (c'.kinds.length - st.ts.length)
structure ArgsOk (st : LS) (kind : Int) (ns : List Int) : Prop where
  len : ns.length ≤ 3
  two : 2 ≤ kind → 2 ≤ ns.length
  three : kind = 7 → 3 ≤ ns.length
  ex : 2 ≤ kind → kind ≠ 7 → ns.length = 2
  inn : ∀ x ∈ ns, 1 ≤ ab x ∧ ab x < (st.c.kinds.length : Int)
/-- what one lap asks, of what was made -/
structure TurnOk (R : Nat) (st : LS) (kind : Int) (ns : List Int) : Prop where
  small : Small (askedF st.c kind ns).1 100
  size : ((askedF st.c kind ns).1.kinds.length : Int) ≤ (st.c.kinds.length : Int) + (if kind < 5 then 1 else 3)
  hkp : (askedF st.c kind ns).1.parts.length = (askedF st.c kind ns).1.kinds.length
  ht2 : 2 ≤ st.ts.length
  htk : st.ts.length ≤ (askedF st.c kind ns).1.kinds.length
  hrow : ∀ i, 1 ≤ i → i < st.ts.length → (st.ts.getD i []).length = R
  hsn : st.sn.length ≤ 900
  hok : ∀ k, st.ts.length + k < (askedF st.c kind ns).1.kinds.length → GateOk (askedF st.c kind ns).1 (growN (askedF st.c kind ns).1 st.ts st.sn k).2 (st.ts.length + k)
  has : Has (askedF st.c kind ns).1 (askedF st.c kind ns).2
  pos : 1 ≤ ab (askedF st.c kind ns).2
  inn : ∀ x ∈ ns, 1 ≤ ab x ∧ ab x < ((askedF st.c kind ns).1.kinds.length : Int)
  truth : ∀ row, row < R → truthF (tsN st (askedF st.c kind ns).1).1 (askedF st.c kind ns).2 row = saidF kind (ns.map fun x => truthF (tsN st (askedF st.c kind ns).1).1 x row)
  settled : settledF (askedF st.c kind ns).1 kind ns (askedF st.c kind ns).2 = ((askedF st.c kind ns).1, true)
  again : askedF (askedF st.c kind ns).1 kind (againF kind ns) = askedF st.c kind ns
theorem tsN_length (st : LS) (c' : Circ) (h : st.ts.length ≤ c'.kinds.length) : (tsN st c').1.length = c'.kinds.length := by
  unfold tsN; rw [growN_length]; omega
theorem tsN_row {R : Nat} (st : LS) (c' : Circ) (h : st.ts.length ≤ c'.kinds.length) (h2 : 2 ≤ st.ts.length) (hr : ∀ i, 1 ≤ i → i < st.ts.length → (st.ts.getD i []).length = R) : ∀ j, 1 ≤ j → j < c'.kinds.length → ((tsN st c').1.getD j []).length = R := fun j h1 h3 => by
  unfold tsN; exact growN_row c' st.ts st.sn h2 hr _ j h1 (by omega)
end Mine
end
-- text Pure0
section
open PySem PySem.W PySem.Calls PyProof.Rows
set_option Elab.async false
set_option maxRecDepth 100000
set_option linter.unusedVariables false
namespace Mine
structure Good (n : Nat) (c : Circ) : Prop where
  pl : c.parts.length = c.kinds.length
  nl : n + 2 ≤ c.kinds.length
  inp : ∀ g, 2 ≤ g → g < n + 2 → c.kinds[g]? = some (Str.ofString "input") ∧ c.parts[g]? = some []
  kind : ∀ g, n + 2 ≤ g → g < c.kinds.length → c.kinds[g]? = some (Str.ofString "and")
  two : ∀ g, n + 2 ≤ g → g < c.kinds.length → 2 ≤ (c.parts.getD g []).length ∧ (c.parts.getD g []).length ≤ 3
  sorted : ∀ g, n + 2 ≤ g → g < c.kinds.length → c.parts.getD g [] = isort (dd (c.parts.getD g []))
  plain : ∀ g, n + 2 ≤ g → g < c.kinds.length → ∀ x ∈ c.parts.getD g [], -x ∉ c.parts.getD g []
  under : ∀ g, n + 2 ≤ g → g < c.kinds.length → ∀ x ∈ c.parts.getD g [], 1 < ab x ∧ ab x < g
  known : ∀ p q, knownAt c.known p = some q ↔ ∃ g : Nat, n + 2 ≤ g ∧ g < c.kinds.length ∧ c.parts.getD g [] = p ∧ q = (g : Int)
structure Coh (n R : Nat) (c : Circ) (ts : List (List Bool)) (sn : List (List Int)) : Prop where
  tl : ts.length = c.kinds.length
  row : ∀ i, 1 ≤ i → i < ts.length → (ts.getD i []).length = R
  one : ∀ r, r < R → (ts.getD 1 []).getD r false = true
  gate : ∀ g, n + 2 ≤ g → g < ts.length → ∀ r, r < R → (ts.getD g []).getD r false = (c.parts.getD g []).all fun x => truthF ts x r
  sn : sn = c.parts.drop (n + 2)
structure Inv (n R lap : Nat) (st : LS) : Prop where
  n2 : 2 ≤ n
  n3 : n ≤ 3
  k0 : 0 ≤ st.k
  k1 : st.k ≤ 1 + 8 * (lap : Int)
  good : Good n st.c
  small : st.c.known.length ≤ 3 * lap
  kl : st.c.kinds.length ≤ n + 2 + 3 * lap
  coh : Coh n R st.c st.ts st.sn
  ss1 : 1 ≤ st.ss.length
  ss2 : st.ss.length ≤ 1 + n + lap
  ssin : ∀ x ∈ st.ss, 1 ≤ x ∧ x < (st.c.kinds.length : Int)
theorem gatesV_ok {n R lap : Nat} {st : LS} (I : Inv n R lap st) (ns : List Int) (b kk : Int) : ∀ many : Nat, ∀ x ∈ gatesV ns b st.ss kk many, 1 ≤ ab x ∧ ab x < (st.c.kinds.length : Int) := by
  intro many
  induction many with
  | zero => intro x hx; cases hx
  | succ m ih =>
    intro x hx
    rw [gatesV] at hx
    rcases List.mem_append.mp hx with hx | hx
    · exact ih x hx
    · rw [List.mem_singleton.mp hx]
      have hd := drawV_lt (ns := ns) (b := b) (k := kk + 2 * (m : Int)) (many := (st.ss.length : Int)) (by have := I.ss1; omega)
      generalize hj : (drawV ns b (kk + 2 * (m : Int)) (st.ss.length : Int)).toNat = j
      have hjl : j < st.ss.length := by omega
      have hin := I.ssin (st.ss.getD j 0) (by rw [List.getD_eq_getElem?_getD, List.getElem?_eq_getElem hjl]; exact List.getElem_mem hjl)
      unfold gateV
      rw [hj]
      unfold ab
      split <;> split <;> omega
theorem Inv.smallc {n R lap : Nat} {st : LS} (I : Inv n R lap st) (hl : lap ≤ 7) : Small st.c 60 := by
  have h1 := I.kl
  have h2 := I.good.pl
  have h3 := I.small
  have h4 := I.n3
  unfold Small
  omega
end Mine
end
-- text PureA
section
open PySem PySem.W PySem.Calls PyProof.Rows
set_option Elab.async false
set_option maxRecDepth 100000
set_option linter.unusedVariables false
namespace Mine
theorem scanStep_some (f : List Int) (g : Int) : scanStep (some f) g = if g = -1 ∨ -g ∈ f then none else some (if g = 1 then f else if g ∈ f then f else f ++ [g]) := rfl
theorem scan_mem : ∀ (ns f f' : List Int), ns.foldl scanStep (some f) = some f' → ∀ x, x ∈ f' ↔ x ∈ f ∨ (x ∈ ns ∧ x ≠ 1)
  | [], f, f', h, x => by cases h; simp
  | n :: r, f, f', h, x => by
    rw [List.foldl_cons, scanStep_some] at h
    split at h
    · rw [scan_none] at h; cases h
    · rw [scan_mem r _ f' h x]
      by_cases h1 : n = 1
      · subst h1
        simp only [if_true, List.mem_cons]
        constructor
        · rintro (h | ⟨h, e⟩)
          · exact .inl h
          · exact .inr ⟨.inr h, e⟩
        · rintro (h | ⟨h | h, e⟩)
          · exact .inl h
          · exact absurd h e
          · exact .inr ⟨h, e⟩
      · simp only [h1, if_false]
        by_cases h2 : n ∈ f
        · simp only [h2, if_true, List.mem_cons]
          constructor
          · rintro (h | ⟨h, e⟩)
            · exact .inl h
            · exact .inr ⟨.inr h, e⟩
          · rintro (h | ⟨h | h, e⟩)
            · exact .inl h
            · subst h; exact .inl h2
            · exact .inr ⟨h, e⟩
        · simp only [h2, if_false, List.mem_append, List.mem_cons, List.not_mem_nil, or_false]
          constructor
          · rintro ((h | h) | ⟨h, e⟩)
            · exact .inl h
            · subst h; exact .inr ⟨.inl rfl, h1⟩
            · exact .inr ⟨.inr h, e⟩
          · rintro (h | ⟨h | h, e⟩)
            · exact .inl (.inl h)
            · exact .inl (.inr h)
            · exact .inr ⟨h, e⟩
theorem scan_nodup : ∀ (ns f f' : List Int), ns.foldl scanStep (some f) = some f' → f.Nodup → f'.Nodup
  | [], f, f', h, k => by cases h; exact k
  | n :: r, f, f', h, k => by
    rw [List.foldl_cons, scanStep_some] at h
    split at h
    · rw [scan_none] at h; cases h
    · refine scan_nodup r _ f' h ?_
      split
      · exact k
      · split
        · exact k
        · rename_i h2
          rw [List.nodup_append]
          refine ⟨k, by simp, fun a ha b hb => ?_⟩
          rw [List.mem_singleton.mp hb]
          intro e; subst e; exact h2 ha
theorem scan_clash : ∀ (ns f : List Int), (∀ x ∈ ns, x ≠ 0) → (ns.foldl scanStep (some f) = none ↔ -1 ∈ ns ∨ (∃ x ∈ ns, -x ∈ f) ∨ ∃ x ∈ ns, -x ∈ ns)
  | [], f, _ => by simp
  | n :: r, f, h0 => by
    have h0' : ∀ x ∈ r, x ≠ 0 := fun x hx => h0 x (.tail _ hx)
    have hn0 := h0 n (.head _)
    rw [List.foldl_cons, scanStep_some]
    by_cases hc : n = -1 ∨ -n ∈ f
    · rw [if_pos hc, scan_none]
      refine ⟨fun _ => ?_, fun _ => rfl⟩
      rcases hc with hc | hc
      · exact .inl (by rw [hc]; exact .head _)
      · exact .inr (.inl ⟨n, .head _, hc⟩)
    · rw [if_neg hc, scan_clash r _ h0']
      have c1 : ¬ n = -1 := fun e => hc (.inl e)
      have c2 : ¬ -n ∈ f := fun e => hc (.inr e)
      have key : ∀ x, x ∈ (if n = 1 then f else if n ∈ f then f else f ++ [n]) ↔ x ∈ f ∨ (x = n ∧ n ≠ 1) := fun x => by
        by_cases h1 : n = 1
        · simp [h1]
        · by_cases h2 : n ∈ f
          · simp only [h1, h2, if_true, if_false]
            constructor
            · exact .inl
            · rintro (h | ⟨h, _⟩)
              · exact h
              · rw [h]; exact h2
          · simp [h1, h2]
      simp only [key]
      constructor
      · rintro (h | ⟨x, hx, h | ⟨h, h1⟩⟩ | ⟨x, hx, h⟩)
        · exact .inl (.tail _ h)
        · exact .inr (.inl ⟨x, .tail _ hx, h⟩)
        · exact .inr (.inr ⟨x, .tail _ hx, by rw [h]; exact .head _⟩)
        · exact .inr (.inr ⟨x, .tail _ hx, .tail _ h⟩)
      · rintro (h | ⟨x, hx, h⟩ | ⟨x, hx, h⟩)
        · rcases List.mem_cons.mp h with h | h
          · exact absurd h.symm c1
          · exact .inl h
        · rcases List.mem_cons.mp hx with rfl | hx
          · exact absurd h c2
          · exact .inr (.inl ⟨x, hx, .inl h⟩)
        · rcases List.mem_cons.mp hx with rfl | hx
          · rcases List.mem_cons.mp h with h | h
            · omega
            · by_cases h1 : x = 1
              · subst h1; exact .inl h
              · exact .inr (.inl ⟨-x, h, .inr ⟨by omega, h1⟩⟩)
          · rcases List.mem_cons.mp h with h | h
            · by_cases h1 : n = 1
              · refine .inl ?_
                have : x = -1 := by omega
                rw [← this]; exact hx
              · exact .inr (.inl ⟨x, hx, .inr ⟨h, h1⟩⟩)
            · exact .inr (.inr ⟨x, hx, h⟩)
/-- what a scan finds does not hang on the order -/
theorem scan_same {ns ms : List Int} (h : ∀ x, x ∈ ns ↔ x ∈ ms) (h0 : ∀ x ∈ ns, x ≠ 0) : (scan ns = none ↔ scan ms = none) := by
  unfold scan
  rw [scan_clash ns [] h0, scan_clash ms [] fun x hx => h0 x ((h x).mpr hx)]
  simp [h]
theorem nodup_perm {a b : List Int} (ha : a.Nodup) (hb : b.Nodup) (h : ∀ x, x ∈ a ↔ x ∈ b) : a.Perm b := by
  exact (List.perm_ext_iff_of_nodup ha hb).mpr h
theorem isort_same {a b : List Int} (ha : a.Nodup) (hb : b.Nodup) (h : ∀ x, x ∈ a ↔ x ∈ b) : isort a = isort b :=
  isort_of_perm ((isort_perm a).trans (nodup_perm ha hb h)) (isort_sorted a)
theorem scan_isort {ns ms fn fm : List Int} (h : ∀ x, x ∈ ns ↔ x ∈ ms) (hn : scan ns = some fn) (hm : scan ms = some fm) : isort fn = isort fm := by
  unfold scan at hn hm
  refine isort_same (scan_nodup _ _ _ hn List.nodup_nil) (scan_nodup _ _ _ hm List.nodup_nil) fun x => ?_
  rw [scan_mem _ _ _ hn, scan_mem _ _ _ hm, h]
/-- all_of hangs on the set of its gates alone -/
theorem allOf_same (c : Circ) {ns ms : List Int} (h : ∀ x, x ∈ ns ↔ x ∈ ms) (h0 : ∀ x ∈ ns, x ≠ 0) : allOf c ns = allOf c ms := by
  have hs := scan_same h h0
  unfold allOf
  cases e1 : scan ns with
  | none => rw [hs.mp e1]
  | some fn =>
    cases e2 : scan ms with
    | none => rw [hs.mpr e2] at e1; cases e1
    | some fm =>
      have e3 := scan_isort h e1 e2
      dsimp only
      rw [e3]
noncomputable def ExtK (c c' : Circ) : Prop := ∀ p q, knownAt c.known p = some q → knownAt c'.known p = some q
theorem ExtK.refl (c : Circ) : ExtK c c := fun _ _ h => h
theorem ExtK.trans {a b c : Circ} (h : ExtK a b) (k : ExtK b c) : ExtK a c := fun p q e => k p q (h p q e)
theorem knownAt_append {kn km : List (List Int × Int)} {p : List Int} {q : Int} (h : knownAt kn p = some q) : knownAt (kn ++ km) p = some q := by
  unfold knownAt at h ⊢
  rw [List.find?_append]
  cases e : kn.find? (fun x => decide (x.1 = p)) with
  | none => rw [e] at h; cases h
  | some y => rw [e] at h; simpa using h
theorem allOf_ext (c : Circ) (ns : List Int) : ExtK c (allOf c ns).1 := by
  unfold allOf
  split
  · exact ExtK.refl c
  · split
    · exact ExtK.refl c
    · split
      · exact ExtK.refl c
      · exact fun p q h => knownAt_append h
/-- asked again, later: the same gate, and none is made -/
theorem allOf_again (c c' : Circ) (ns : List Int) (h : ExtK (allOf c ns).1 c') : allOf c' ns = (c', (allOf c ns).2) := by
  unfold allOf at h ⊢
  cases e : scan ns with
  | none => rfl
  | some f =>
    rw [e] at h
    dsimp only at h ⊢
    by_cases hl : (isort f).length < 2
    · rw [if_pos hl, if_pos hl]
    · rw [if_neg hl] at h ⊢
      rw [if_neg hl]
      cases ek : knownAt c.known (isort f) with
      | some q =>
        rw [ek] at h
        dsimp only at h ⊢
        rw [h _ _ ek]
      | none =>
        rw [ek] at h
        dsimp only at h ⊢
        rw [h _ _ (knownAt_new ek)]
end Mine
end
-- text PureB
section
open PySem PySem.W PySem.Calls PyProof.Rows
set_option Elab.async false
set_option maxRecDepth 100000
set_option linter.unusedVariables false
namespace Mine
theorem implies_again (c c' : Circ) (x y : Int) (h : ExtK (implies c x y).1 c') : implies c' x y = (c', (implies c x y).2) := by
  unfold implies neg at h ⊢
  rw [allOf_again c c' [x, -y] h]
theorem implies_ext (c : Circ) (x y : Int) : ExtK c (implies c x y).1 := allOf_ext c _
theorem two_mem (x y : Int) : ∀ z, z ∈ [x, y] ↔ z ∈ [y, x] := fun z => by simp [or_comm]
/-- two implications asked again, of a circuit that has grown on -/
theorem twice_again (c c' : Circ) (x y u v : Int) (h : ExtK (implies (implies c x y).1 u v).1 c') : implies c' x y = (c', (implies c x y).2) ∧ implies c' u v = (c', (implies (implies c x y).1 u v).2) :=
  ⟨implies_again c c' x y ((implies_ext _ u v).trans h), implies_again _ c' u v h⟩
end Mine
end
-- text PureC
section
open PySem PySem.W PySem.Calls PyProof.Rows
set_option Elab.async false
set_option maxRecDepth 100000
set_option linter.unusedVariables false
namespace Mine
theorem step_dedup_eq (f : List Int) (x : Int) : step_dedup f x = if x ∈ f then f else f ++ [x] := by
  unfold step_dedup
  by_cases h : x ∈ f
  · rw [if_pos h, if_pos (by rw [List.any_eq_true]; exact ⟨x, h, by simp⟩)]
  · rw [if_neg h, if_neg (by rw [List.any_eq_true]; rintro ⟨y, hy, e⟩; simp at e; subst e; exact h hy)]
theorem ddf_mem : ∀ (ns f : List Int) (x : Int), x ∈ ns.foldl step_dedup f ↔ x ∈ f ∨ x ∈ ns
  | [], f, x => by simp
  | n :: r, f, x => by
    rw [List.foldl_cons, ddf_mem r, step_dedup_eq]
    by_cases h : n ∈ f
    · simp only [h, if_true, List.mem_cons]
      constructor
      · rintro (h | h)
        · exact .inl h
        · exact .inr (.inr h)
      · rintro (h | rfl | h)
        · exact .inl h
        · exact .inl (by assumption)
        · exact .inr h
    · simp only [h, if_false, List.mem_append, List.mem_cons, List.not_mem_nil, or_false, or_assoc]
theorem ddf_nodup : ∀ (ns f : List Int), f.Nodup → (ns.foldl step_dedup f).Nodup
  | [], f, h => h
  | n :: r, f, h => by
    rw [List.foldl_cons, step_dedup_eq]
    refine ddf_nodup r _ ?_
    split
    · exact h
    · rename_i h2
      rw [List.nodup_append]
      refine ⟨h, by simp, fun a ha b hb => ?_⟩
      rw [List.mem_singleton.mp hb]
      intro e; subst e; exact h2 ha
theorem dd_mem (ns : List Int) (x : Int) : x ∈ dd ns ↔ x ∈ ns := by
  unfold dd; rw [ddf_mem]; simp
theorem dd_nodup (ns : List Int) : (dd ns).Nodup := ddf_nodup ns [] List.nodup_nil
theorem isort_mem (ns : List Int) (x : Int) : x ∈ isort ns ↔ x ∈ ns := (isort_perm ns).mem_iff
theorem isort_nodup {ns : List Int} (h : ns.Nodup) : (isort ns).Nodup := (isort_perm ns).nodup_iff.mpr h
theorem isort_len (ns : List Int) : (isort ns).length = ns.length := (isort_perm ns).length_eq
noncomputable def Clash (ns : List Int) : Prop := -1 ∈ ns ∨ ∃ x ∈ ns, -x ∈ ns
/-- what an and of the gates ns is, in a circuit -/
inductive JD (n : Nat) (c : Circ) (ns : List Int) : Int → Prop
  | no : Clash ns → JD n c ns (-1)
  | one : ¬ Clash ns → (∀ x ∈ ns, x = 1) → JD n c ns 1
  | single (x : Int) : ¬ Clash ns → x ∈ ns → x ≠ 1 → (∀ y ∈ ns, y = 1 ∨ y = x) → JD n c ns x
  | gate (g : Nat) : ¬ Clash ns → n + 2 ≤ g → g < c.kinds.length → (∀ y, y ∈ c.parts.getD g [] ↔ y ∈ ns ∧ y ≠ 1) → JD n c ns (g : Int)
/-- the circuit has grown by at most d gates -/
structure Ext (d : Nat) (c c' : Circ) : Prop where
  ex : ∃ ks ps km, c'.kinds = c.kinds ++ ks ∧ c'.parts = c.parts ++ ps ∧ c'.known = c.known ++ km ∧ ps.length = ks.length ∧ km.length = ks.length ∧ ks.length ≤ d
theorem Ext.refl (c : Circ) : Ext 0 c c := ⟨[], [], [], by simp⟩
theorem Ext.trans {d e : Nat} {a b c : Circ} (h : Ext d a b) (k : Ext e b c) : Ext (d + e) a c := by
  obtain ⟨ks, ps, km, h1, h2, h3, h4, h5, h6⟩ := h.ex
  obtain ⟨ks', ps', km', k1, k2, k3, k4, k5, k6⟩ := k.ex
  refine ⟨ks ++ ks', ps ++ ps', km ++ km', by rw [k1, h1, List.append_assoc], by rw [k2, h2, List.append_assoc], by rw [k3, h3, List.append_assoc], ?_, ?_, ?_⟩ <;> simp only [List.length_append] <;> omega
theorem Ext.le {d e : Nat} {a b : Circ} (h : Ext d a b) (k : d ≤ e) : Ext e a b := by
  obtain ⟨ks, ps, km, h1, h2, h3, h4, h5, h6⟩ := h.ex
  exact ⟨ks, ps, km, h1, h2, h3, h4, h5, by omega⟩
theorem Ext.len {d : Nat} {a b : Circ} (h : Ext d a b) : a.kinds.length ≤ b.kinds.length ∧ b.kinds.length ≤ a.kinds.length + d ∧ b.known.length ≤ a.known.length + d := by
  obtain ⟨ks, ps, km, h1, h2, h3, h4, h5, h6⟩ := h.ex
  rw [h1, h3]; simp only [List.length_append]; omega
theorem Ext.part {d : Nat} {a b : Circ} (h : Ext d a b) {g : Nat} (hg : g < a.parts.length) : b.parts.getD g [] = a.parts.getD g [] := by
  obtain ⟨ks, ps, km, h1, h2, h3, h4, h5, h6⟩ := h.ex
  rw [h2, List.getD_eq_getElem?_getD, List.getD_eq_getElem?_getD, List.getElem?_append_left hg]
theorem Ext.know {d : Nat} {a b : Circ} (h : Ext d a b) : ExtK a b := by
  obtain ⟨ks, ps, km, h1, h2, h3, h4, h5, h6⟩ := h.ex
  intro p q e
  rw [h3]; exact knownAt_append e
theorem JD.ext {n d : Nat} {a b : Circ} {ns : List Int} {g : Int} (h : JD n a ns g) (hp : a.parts.length = a.kinds.length) (e : Ext d a b) : JD n b ns g := by
  cases h with
  | no h => exact .no h
  | one h k => exact .one h k
  | single x h k l m => exact .single _ h k l m
  | gate g h k l m =>
    refine .gate g h k (Nat.lt_of_lt_of_le l e.len.1) ?_
    rw [e.part (by omega)]
    exact m
theorem nodup_one {l : List Int} {x : Int} (h : l.Nodup) (k : ∀ y, y ∈ l ↔ y = x) : l = [x] := by
  have := nodup_perm (b := [x]) h (by simp) (fun y => by rw [k]; simp)
  exact List.perm_singleton.mp this
/-- the code's check says yes -/
theorem JD.joined {n : Nat} {c : Circ} {ns : List Int} {g : Int} (h : JD n c ns g) (G : Good n c) (h0 : ∀ x ∈ ns, x ≠ 0) : joinedF c ns g = true := by
  have hcl : Clash ns ↔ ((ns.any fun x => x == -1) = true ∨ ¬ List.filter (fun a => ns.any fun x => x == 0 - a) ns = []) := by
    unfold Clash
    refine or_congr ?_ ?_
    · rw [List.any_eq_true]
      constructor
      · exact fun h => ⟨_, h, by simp⟩
      · rintro ⟨x, hx, e⟩; simp at e; subst e; exact hx
    · rw [List.filter_eq_nil_iff]
      constructor
      · rintro ⟨x, hx, e⟩ k
        exact k x hx (by rw [List.any_eq_true]; exact ⟨-x, e, by simp⟩)
      · intro k
        refine Classical.byContradiction fun q => k fun a ha hb => q ⟨a, ha, ?_⟩
        rw [List.any_eq_true] at hb
        obtain ⟨x, hx, e⟩ := hb
        simp at e; subst e; exact hx
  have km : ∀ y, y ∈ dd (ns.filter fun a => a != 1) ↔ y ∈ ns ∧ y ≠ 1 := fun y => by rw [dd_mem, List.mem_filter]; simp
  unfold joinedF
  cases h with
  | no h =>
    rcases hcl.mp h with h | h
    · rw [if_pos h]; rfl
    · rw [if_neg h]; split <;> rfl
  | one h k =>
    have h1 : ¬ (ns.any fun x => x == -1) = true := fun q => h (hcl.mpr (.inl q))
    have h2 : List.filter (fun a => ns.any fun x => x == 0 - a) ns = [] := Classical.byContradiction fun q => h (hcl.mpr (.inr q))
    have h3 : keptF ns = [] := by
      unfold keptF
      have : dd (ns.filter fun a => a != 1) = [] := List.eq_nil_iff_forall_not_mem.mpr fun y hy => ((km y).mp hy).2 (k y ((km y).mp hy).1)
      rw [this]; rfl
    rw [if_neg h1, if_pos h2, h3]; rfl
  | single x h k l m =>
    have h1 : ¬ (ns.any fun x => x == -1) = true := fun q => h (hcl.mpr (.inl q))
    have h2 : List.filter (fun a => ns.any fun x => x == 0 - a) ns = [] := Classical.byContradiction fun q => h (hcl.mpr (.inr q))
    have h3 : keptF ns = [g] := by
      unfold keptF
      have : dd (ns.filter fun a => a != 1) = [g] := nodup_one (dd_nodup _) fun y => by
        rw [km]
        constructor
        · rintro ⟨p, q⟩
          exact (m y p).resolve_left q
        · rintro rfl; exact ⟨k, l⟩
      rw [this]; rfl
    rw [if_neg h1, if_pos h2, h3]; simp
  | gate g h k l m =>
    have h1 : ¬ (ns.any fun x => x == -1) = true := fun q => h (hcl.mpr (.inl q))
    have h2 : List.filter (fun a => ns.any fun x => x == 0 - a) ns = [] := Classical.byContradiction fun q => h (hcl.mpr (.inr q))
    have h3 : keptF ns = c.parts.getD g [] := by
      rw [G.sorted g k l]
      unfold keptF
      exact isort_same (dd_nodup _) (dd_nodup _) fun y => by rw [km, dd_mem, m]
    have h4 := (G.two g k l).1
    have e : (ab (g : Int)).toNat = g := by unfold ab; split <;> omega
    rw [if_neg h1, if_pos h2, h3, if_neg (by omega), if_pos (by omega), e, if_pos, decide_eq_true rfl]
    rw [List.getD_eq_getElem?_getD, G.kind g k l]; simp
theorem allOf_jd {n : Nat} {c : Circ} {ns : List Int} (G : Good n c) (h0 : ∀ x ∈ ns, 1 ≤ ab x ∧ ab x < (c.kinds.length : Int)) (h3 : ns.length ≤ 3) :
    Good n (allOf c ns).1 ∧ Ext 1 c (allOf c ns).1 ∧ (1 ≤ ab (allOf c ns).2 ∧ ab (allOf c ns).2 < ((allOf c ns).1.kinds.length : Int)) ∧ JD n (allOf c ns).1 ns (allOf c ns).2 := by
  have hz : ∀ x ∈ ns, x ≠ 0 := fun x hx e => by have := (h0 x hx).1; subst e; exact absurd this (by decide)
  have hcl : scan ns = none ↔ Clash ns := by
    unfold scan Clash; rw [scan_clash ns [] hz]; simp
  have hnl := G.nl
  unfold allOf
  cases e : scan ns with
  | none =>
    exact ⟨G, (Ext.refl c).le (by omega), ⟨Int.le_refl 1, by show (1 : Int) < (c.kinds.length : Int); omega⟩, .no (hcl.mp e)⟩
  | some f =>
    have hn : ¬ Clash ns := fun q => by rw [hcl.mpr q] at e; cases e
    have hfm : ∀ x, x ∈ f ↔ x ∈ ns ∧ x ≠ 1 := fun x => by have := scan_mem ns [] f e x; simpa using this
    have hfn : f.Nodup := scan_nodup ns [] f e List.nodup_nil
    have hfl : f.length ≤ 3 := by have := scan_len ns [] f e; simp at this; omega
    dsimp only
    rw [isort_len]
    by_cases h2 : f.length < 2
    · rw [if_pos h2]
      refine ⟨G, (Ext.refl c).le (by omega), ?_⟩
      match f, h2, hfm with
      | [], _, hfm =>
        refine ⟨⟨Int.le_refl 1, by show (1 : Int) < (c.kinds.length : Int); omega⟩, .one hn fun x hx => Classical.byContradiction fun q => ?_⟩
        have := (hfm x).mpr ⟨hx, q⟩
        cases this
      | [x], _, hfm =>
        have hx := (hfm x).mp (.head _)
        refine ⟨h0 x hx.1, .single x hn hx.1 hx.2 fun y hy => ?_⟩
        by_cases q : y = 1
        · exact .inl q
        · exact .inr (List.mem_singleton.mp ((hfm y).mpr ⟨hy, q⟩))
    · rw [if_neg h2]
      cases ek : knownAt c.known (isort f) with
      | some q =>
        obtain ⟨g, k1, k2, k3, rfl⟩ := (G.known _ _).mp ek
        refine ⟨G, (Ext.refl c).le (by omega), ?_, .gate g hn k1 k2 fun y => by rw [k3, isort_mem, hfm]⟩
        dsimp only
        have e : ab (g : Int) = (g : Int) := by unfold ab; split <;> omega
        rw [e]; omega
      | none =>
        dsimp only
        have hl := G.pl
        have old : ∀ {g : Nat}, g < c.kinds.length → (c.parts ++ [isort f]).getD g [] = c.parts.getD g [] := fun {g} hg => by
          rw [List.getD_eq_getElem?_getD, List.getD_eq_getElem?_getD, List.getElem?_append_left (by omega)]
        have new : (c.parts ++ [isort f]).getD c.kinds.length [] = isort f := by
          rw [List.getD_eq_getElem?_getD, ← hl, List.getElem?_concat_length]; rfl
        have oldk : ∀ {g : Nat}, g < c.kinds.length → (c.kinds ++ [Str.ofString "and"])[g]? = c.kinds[g]? := fun {g} hg => List.getElem?_append_left hg
        have newk : (c.kinds ++ [Str.ofString "and"])[c.kinds.length]? = some (Str.ofString "and") := List.getElem?_concat_length
        have len : (c.kinds ++ [Str.ofString "and"]).length = c.kinds.length + 1 := by simp
        have cs : ∀ {g : Nat}, g < (c.kinds ++ [Str.ofString "and"]).length → g < c.kinds.length ∨ g = c.kinds.length := fun {g} hg => by rw [len] at hg; omega
        refine ⟨⟨by simp; omega, by simp; omega, ?_, ?_, ?_, ?_, ?_, ?_, ?_⟩, ⟨[Str.ofString "and"], [isort f], [(isort f, (c.kinds.length : Int))], rfl, rfl, rfl, rfl, rfl, by decide⟩, ?_, ?_⟩
        · intro g k1 k2
          obtain ⟨a, b⟩ := G.inp g k1 k2
          exact ⟨by rw [oldk (by omega)]; exact a, by dsimp only; rw [List.getElem?_append_left (by omega)]; exact b⟩
        · intro g k1 k2
          rcases cs k2 with k | rfl
          · rw [oldk k]; exact G.kind g k1 k
          · exact newk
        · intro g k1 k2
          rcases cs k2 with k | rfl
          · dsimp only; rw [old k]; exact G.two g k1 k
          · dsimp only; rw [new, isort_len]; omega
        · intro g k1 k2
          rcases cs k2 with k | rfl
          · dsimp only; rw [old k]; exact G.sorted g k1 k
          · dsimp only; rw [new]
            exact isort_same hfn (dd_nodup _) fun y => by rw [dd_mem, isort_mem]
        · intro g k1 k2
          rcases cs k2 with k | rfl
          · dsimp only; rw [old k]; exact G.plain g k1 k
          · dsimp only; rw [new]
            intro x hx hy
            rw [isort_mem, hfm] at hx hy
            exact hn (.inr ⟨x, hx.1, hy.1⟩)
        · intro g k1 k2
          rcases cs k2 with k | rfl
          · dsimp only; rw [old k]; exact G.under g k1 k
          · dsimp only; rw [new]
            intro x hx
            rw [isort_mem, hfm] at hx
            have := h0 x hx.1
            have h1 : x ≠ -1 := fun q => hn (.inl (q ▸ hx.1))
            have h2 := hx.2
            unfold ab at *
            split at this <;> split <;> omega
        · intro p q
          dsimp only
          have ka : knownAt (c.known ++ [(isort f, (c.kinds.length : Int))]) p = (knownAt c.known p).or (if isort f = p then some (c.kinds.length : Int) else none) := by
            unfold knownAt
            rw [List.find?_append]
            cases c.known.find? (fun x => decide (x.1 = p)) with
            | some y => rfl
            | none =>
              by_cases k : isort f = p
              · simp [k]
              · simp [k]
          rw [ka]
          cases kp : knownAt c.known p with
          | some q' =>
            rw [Option.some_or]
            constructor
            · intro k; cases k
              obtain ⟨g, a1, a2, a3, a4⟩ := (G.known _ _).mp kp
              exact ⟨g, a1, by rw [len]; omega, by rw [old a2]; exact a3, a4⟩
            · rintro ⟨g, a1, a2, a3, a4⟩
              rcases cs a2 with k | rfl
              · rw [old k] at a3
                rw [← kp]; exact (G.known _ _).mpr ⟨g, a1, k, a3, a4⟩
              · rw [new] at a3
                subst a3; rw [kp] at ek; cases ek
          | none =>
            rw [Option.none_or]
            constructor
            · intro k
              split at k
              · rename_i k'
                cases k
                exact ⟨c.kinds.length, hnl, by rw [len]; omega, by rw [new]; exact k', rfl⟩
              · cases k
            · rintro ⟨g, a1, a2, a3, a4⟩
              rcases cs a2 with k | rfl
              · rw [old k] at a3
                have := (G.known p q).mpr ⟨g, a1, k, a3, a4⟩
                rw [kp] at this; cases this
              · rw [new] at a3
                rw [if_pos a3, a4]
        · have e : ab (c.kinds.length : Int) = (c.kinds.length : Int) := by unfold ab; split <;> omega
          rw [e, len]; omega
        · refine .gate _ hn hnl (by dsimp only; rw [len]; omega) fun y => ?_
          dsimp only
          rw [new, isort_mem, hfm]
end Mine
end
-- text PureD
section
open PySem PySem.W PySem.Calls PyProof.Rows
set_option Elab.async false
set_option maxRecDepth 100000
set_option linter.unusedVariables false
namespace Mine
theorem truth_neg {ts : List (List Bool)} {x : Int} {r : Nat} (h : x ≠ 0) : truthF ts (-x) r = !truthF ts x r := by
  unfold truthF
  have e : ab (-x) = ab x := by unfold ab; split <;> split <;> omega
  rw [e]
  have : decide (0 < -x) = !decide (0 < x) := by
    by_cases k : 0 < x
    · simp [k]; omega
    · simp [k]; omega
  rw [this]
  cases (ts.getD (ab x).toNat []).getD r false <;> cases decide (0 < x) <;> rfl
theorem truth_one {n R : Nat} {c : Circ} {ts : List (List Bool)} {sn : List (List Int)} (C : Coh n R c ts sn) {r : Nat} (hr : r < R) : truthF ts 1 r = true := by
  have := C.one r hr
  show ((ts.getD 1 []).getD r false == decide (0 < (1 : Int))) = true
  rw [this]; rfl
theorem JD.truth {n R : Nat} {c : Circ} {ts : List (List Bool)} {sn : List (List Int)} {ns : List Int} {g : Int} (h : JD n c ns g) (G : Good n c) (C : Coh n R c ts sn) (h0 : ∀ x ∈ ns, x ≠ 0) {r : Nat} (hr : r < R) :
    truthF ts g r = ns.all fun x => truthF ts x r := by
  have t1 := truth_one C hr
  cases h with
  | no h =>
    have tm : truthF ts (-1) r = false := by rw [truth_neg (by decide), t1]; rfl
    rw [tm]
    symm
    rw [List.all_eq_false]
    rcases h with h | ⟨x, hx, h⟩
    · exact ⟨_, h, by rw [tm]; decide⟩
    · by_cases k : truthF ts x r = true
      · exact ⟨_, h, by rw [truth_neg (h0 x hx), k]; decide⟩
      · exact ⟨x, hx, k⟩
  | one h k =>
    rw [t1]; symm
    rw [List.all_eq_true]
    intro x hx; rw [k x hx]; exact t1
  | single x h k l m =>
    rw [Bool.eq_iff_iff, List.all_eq_true]
    constructor
    · intro q y hy
      rcases m y hy with rfl | rfl
      · exact t1
      · exact q
    · intro q; exact q _ k
  | gate g h k l m =>
    have e : truthF ts (g : Int) r = (ts.getD g []).getD r false := by
      unfold truthF
      have e1 : ab (g : Int) = (g : Int) := by unfold ab; split <;> omega
      have e2 : decide (0 < (g : Int)) = true := decide_eq_true (by omega)
      rw [e1, e2, Int.toNat_natCast]; simp
    rw [e, C.gate g k (by rw [C.tl]; exact l) r hr, Bool.eq_iff_iff, List.all_eq_true, List.all_eq_true]
    constructor
    · intro q y hy
      by_cases y1 : y = 1
      · subst y1; exact t1
      · exact q y ((m y).mpr ⟨hy, y1⟩)
    · intro q y hy
      exact q y ((m y).mp hy).1
noncomputable def InR (c : Circ) (x : Int) : Prop := 1 ≤ ab x ∧ ab x < (c.kinds.length : Int)
theorem InR.nz {c : Circ} {x : Int} (h : InR c x) : x ≠ 0 := fun e => by have := h.1; subst e; exact absurd this (by decide)
theorem ab_minus (x : Int) : ab (-x) = ab x := by unfold ab; split <;> split <;> omega
theorem InR.neg {c : Circ} {x : Int} (h : InR c x) : InR c (-x) := by unfold InR; rw [ab_minus]; exact h
theorem InR.ext {c c' : Circ} {d : Nat} {x : Int} (h : InR c x) (e : Ext d c c') : InR c' x := ⟨h.1, by have := h.2; have := e.len; omega⟩
theorem two_in {c : Circ} {x y : Int} (hx : InR c x) (hy : InR c y) : ∀ z ∈ [x, y], InR c z := fun z hz => by
  rcases List.mem_cons.mp hz with rfl | hz
  · exact hx
  · rw [List.mem_singleton.mp hz]; exact hy
/-- what an implication leaves -/
theorem implies_jd {n : Nat} {c : Circ} {x y : Int} (G : Good n c) (hx : InR c x) (hy : InR c y) :
    Good n (implies c x y).1 ∧ Ext 1 c (implies c x y).1 ∧ InR (implies c x y).1 (implies c x y).2 ∧ JD n (implies c x y).1 [x, -y] (-(implies c x y).2) := by
  obtain ⟨a, b, d, e⟩ := allOf_jd (ns := [x, -y]) G (two_in hx hy.neg) (by simp)
  refine ⟨a, b, InR.neg d, ?_⟩
  show JD n (allOf c [x, -y]).1 [x, -y] (- -(allOf c [x, -y]).2)
  rw [Int.neg_neg]; exact e
/-- what each operation leaves, in the circuit behind it -/
inductive Told (n : Nat) (c : Circ) (ns : List Int) (g : Int) : Int → Prop
  | k0 : JD n c ns g → Told n c ns g 0
  | k1 : JD n c (ns.map fun x => -x) (-g) → Told n c ns g 1
  | k2 (x y : Int) : ns = [x, y] → JD n c [x, y] g → Told n c ns g 2
  | k3 (x y : Int) : ns = [x, y] → JD n c [-x, -y] (-g) → Told n c ns g 3
  | k4 (x y : Int) : ns = [x, y] → JD n c [x, -y] (-g) → Told n c ns g 4
  | k5 (x y u v : Int) : ns = [x, y] → InR c u → InR c v → implies c x y = (c, u) → implies c y x = (c, v) → JD n c [x, -y] (-u) → JD n c [y, -x] (-v) → JD n c [u, v] g → Told n c ns g 5
  | k6 (x y u v : Int) : ns = [x, y] → InR c u → InR c v → implies c x y = (c, u) → implies c y x = (c, v) → JD n c [x, -y] (-u) → JD n c [y, -x] (-v) → JD n c [u, v] (-g) → Told n c ns g 6
  | k7 (z x y u v : Int) : ns = [z, x, y] → InR c u → InR c v → implies c z x = (c, u) → implies c (-z) y = (c, v) → JD n c [z, -x] (-u) → JD n c [-z, -y] (-v) → JD n c [u, v] g → Told n c ns g 7
theorem two_of {ns : List Int} (h : ns.length = 2) : ∃ x y, ns = [x, y] := by
  match ns, h with
  | [x, y], _ => exact ⟨x, y, rfl⟩
theorem three_of {ns : List Int} (h : ns.length = 3) : ∃ x y z, ns = [x, y, z] := by
  match ns, h with
  | [x, y, z], _ => exact ⟨x, y, z, rfl⟩
/-- two implications and their and -/
theorem pair_jd {n : Nat} {c : Circ} {x y u v : Int} (G : Good n c) (hx : InR c x) (hy : InR c y) (hu : InR c u) (hv : InR c v) (c2 : Circ) (e2 : c2 = (implies (implies c x y).1 u v).1) (p q : Int) (hp : p = (implies c x y).2) (hq : q = (implies (implies c x y).1 u v).2)
    (c3 : Circ) (g : Int) (e3 : allOf c2 [p, q] = (c3, g)) :
    Good n c3 ∧ Ext 3 c c3 ∧ InR c3 g ∧ InR c3 p ∧ InR c3 q ∧ implies c3 x y = (c3, p) ∧ implies c3 u v = (c3, q) ∧ JD n c3 [x, -y] (-p) ∧ JD n c3 [u, -v] (-q) ∧ JD n c3 [p, q] g := by
  obtain ⟨a1, a2, a3, a4⟩ := implies_jd G hx hy
  obtain ⟨b1, b2, b3, b4⟩ := implies_jd a1 (hu.ext a2) (hv.ext a2)
  rw [← e2] at b1 b2 b3 b4
  rw [← hp] at a3 a4
  rw [← hq] at b3 b4
  obtain ⟨d1, d2, d3, d4⟩ := allOf_jd (ns := [p, q]) b1 (two_in (a3.ext b2) b3) (by simp)
  have hk : ExtK c2 c3 := by have := d2.know; rw [e3] at this; exact this
  obtain ⟨t1, t2⟩ := twice_again c c3 x y u v (by rw [← e2]; exact hk)
  rw [e3] at d1 d2 d3 d4
  rw [← hp] at t1
  rw [← hq] at t2
  exact ⟨d1, (a2.trans b2).trans d2, d3, (a3.ext b2).ext d2, b3.ext d2, t1, t2, (a4.ext a1.pl b2).ext b1.pl d2, b4.ext b1.pl d2, d4⟩
theorem told {n : Nat} {c : Circ} {kind : Int} {ns : List Int} (G : Good n c) (h0 : 0 ≤ kind) (h8 : kind < 8) (hl : ns.length ≤ 3) (ex : 2 ≤ kind → kind ≠ 7 → ns.length = 2) (ex3 : kind = 7 → 3 ≤ ns.length) (hi : ∀ x ∈ ns, InR c x) :
    Good n (askedF c kind ns).1 ∧ Ext (if kind < 5 then 1 else 3) c (askedF c kind ns).1 ∧ InR (askedF c kind ns).1 (askedF c kind ns).2 ∧ Told n (askedF c kind ns).1 ns (askedF c kind ns).2 kind := by
  have hk : kind = 0 ∨ kind = 1 ∨ kind = 2 ∨ kind = 3 ∨ kind = 4 ∨ kind = 5 ∨ kind = 6 ∨ kind = 7 := by omega
  rcases hk with rfl | rfl | rfl | rfl | rfl | rfl | rfl | rfl
  · obtain ⟨a, b, d, e⟩ := allOf_jd (ns := ns) G hi hl
    exact ⟨a, b, d, .k0 e⟩
  · obtain ⟨a, b, d, e⟩ := allOf_jd (ns := ns.map fun x => -x) G (fun x hx => by
      obtain ⟨y, hy, rfl⟩ := List.mem_map.mp hx
      exact (hi y hy).neg) (by rw [List.length_map]; exact hl)
    refine ⟨a, b, InR.neg d, .k1 ?_⟩
    show JD n (allOf c (ns.map fun x => -x)).1 _ (- -(allOf c (ns.map fun x => -x)).2)
    rw [Int.neg_neg]; exact e
  · obtain ⟨x, y, rfl⟩ := two_of (ex (by decide) (by decide))
    obtain ⟨a, b, d, e⟩ := allOf_jd (ns := [x, y]) G hi (by simp)
    exact ⟨a, b, d, .k2 x y rfl e⟩
  · obtain ⟨x, y, rfl⟩ := two_of (ex (by decide) (by decide))
    obtain ⟨a, b, d, e⟩ := allOf_jd (ns := [-x, -y]) G (two_in (hi x (.head _)).neg (hi y (.tail _ (.head _))).neg) (by simp)
    refine ⟨a, b, InR.neg d, .k3 x y rfl ?_⟩
    show JD n (allOf c [-x, -y]).1 _ (- -(allOf c [-x, -y]).2)
    rw [Int.neg_neg]; exact e
  · obtain ⟨x, y, rfl⟩ := two_of (ex (by decide) (by decide))
    obtain ⟨a, b, d, e⟩ := implies_jd G (hi x (.head _)) (hi y (.tail _ (.head _)))
    exact ⟨a, b, d, .k4 x y rfl e⟩
  · obtain ⟨x, y, rfl⟩ := two_of (ex (by decide) (by decide))
    have hx := hi x (.head _)
    have hy := hi y (.tail _ (.head _))
    obtain ⟨a, b, d, e, f, g, h, i, j, k⟩ := pair_jd G hx hy hy hx _ rfl _ _ rfl rfl (iffG c x y).1 (iffG c x y).2 rfl
    exact ⟨a, b, d, .k5 x y _ _ rfl e f g h i j k⟩
  · obtain ⟨x, y, rfl⟩ := two_of (ex (by decide) (by decide))
    have hx := hi x (.head _)
    have hy := hi y (.tail _ (.head _))
    obtain ⟨a, b, d, e, f, g, h, i, j, k⟩ := pair_jd G hx hy hy hx _ rfl _ _ rfl rfl (iffG c x y).1 (iffG c x y).2 rfl
    refine ⟨a, b, InR.neg d, .k6 x y _ _ rfl e f g h i j ?_⟩
    show JD n (iffG c x y).1 _ (- -(iffG c x y).2)
    rw [Int.neg_neg]; exact k
  · obtain ⟨z, x, y, rfl⟩ := three_of (Nat.le_antisymm hl (ex3 rfl))
    have hz := hi z (.head _)
    have hx := hi x (.tail _ (.head _))
    have hy := hi y (.tail _ (.tail _ (.head _)))
    obtain ⟨a, b, d, e, f, g, h, i, j, k⟩ := pair_jd G hz hx hz.neg hy _ rfl _ _ rfl rfl (choose c z x y).1 (choose c z x y).2 rfl
    exact ⟨a, b, d, .k7 z x y _ _ rfl e f g h i j k⟩
theorem map_neg (ns : List Int) : (ns.map fun x => 0 - x) = ns.map fun x => -x := List.map_congr_left fun x _ => by omega
theorem Told.settled {n : Nat} {c : Circ} {kind : Int} {ns : List Int} {g : Int} (T : Told n c ns g kind) (G : Good n c) (hi : ∀ x ∈ ns, InR c x) : settledF c kind ns g = (c, true) := by
  have h0 : ∀ x ∈ ns, x ≠ 0 := fun x hx => (hi x hx).nz
  have z : (0 : Int) - g = -g := by omega
  have two0 : ∀ {x y : Int}, x ≠ 0 → y ≠ 0 → ∀ z ∈ [x, y], z ≠ 0 := fun {x y} hx hy z hz => by
    rcases List.mem_cons.mp hz with rfl | hz
    · exact hx
    · rw [List.mem_singleton.mp hz]; exact hy
  cases T with
  | k0 j => exact congrArg (Prod.mk c) (j.joined G h0)
  | k1 j =>
    show (c, joinedF c (ns.map fun x => 0 - x) (0 - g)) = _
    rw [map_neg, z, j.joined G fun x hx => ?_]
    obtain ⟨y, hy, rfl⟩ := List.mem_map.mp hx
    exact (hi y hy).neg.nz
  | k2 x y e j => subst e; exact congrArg (Prod.mk c) (j.joined G h0)
  | k3 x y e j =>
    subst e
    show (c, joinedF c [0 - x, 0 - y] (0 - g)) = _
    have e1 : (0 : Int) - x = -x := by omega
    have e2 : (0 : Int) - y = -y := by omega
    rw [e1, e2, z, j.joined G (two0 (hi x (.head _)).neg.nz (hi y (.tail _ (.head _))).neg.nz)]
  | k4 x y e j =>
    subst e
    show (c, joinedF c [x, 0 - y] (0 - g)) = _
    have e2 : (0 : Int) - y = -y := by omega
    rw [e2, z, j.joined G (two0 (hi x (.head _)).nz (hi y (.tail _ (.head _))).neg.nz)]
  | k5 x y u v e hu hv k1 k2 j1 j2 j =>
    subst e
    show ((implies (implies c x y).1 y x).1, joinedF (implies (implies c x y).1 y x).1 [(implies c x y).2, (implies (implies c x y).1 y x).2] g) = _
    rw [k1]; dsimp only; rw [k2]; dsimp only
    rw [j.joined G (two0 hu.nz hv.nz)]
  | k6 x y u v e hu hv k1 k2 j1 j2 j =>
    subst e
    show ((implies (implies c x y).1 y x).1, joinedF (implies (implies c x y).1 y x).1 [(implies c x y).2, (implies (implies c x y).1 y x).2] (0 - g)) = _
    rw [k1]; dsimp only; rw [k2]; dsimp only
    rw [z, j.joined G (two0 hu.nz hv.nz)]
  | k7 w x y u v e hu hv k1 k2 j1 j2 j =>
    subst e
    show ((implies (implies c w x).1 (0 - w) y).1, joinedF (implies (implies c w x).1 (0 - w) y).1 [(implies c w x).2, (implies (implies c w x).1 (0 - w) y).2] g) = _
    have e1 : (0 : Int) - w = -w := by omega
    rw [e1, k1]; dsimp only; rw [k2]; dsimp only
    rw [j.joined G (two0 hu.nz hv.nz)]
theorem Told.truth {n R : Nat} {c : Circ} {ts : List (List Bool)} {sn : List (List Int)} {kind : Int} {ns : List Int} {g : Int} (T : Told n c ns g kind) (G : Good n c) (C : Coh n R c ts sn) (hg : InR c g) (hi : ∀ x ∈ ns, InR c x) {r : Nat} (hr : r < R) :
    truthF ts g r = saidF kind (ns.map fun x => truthF ts x r) := by
  have h0 : ∀ x ∈ ns, x ≠ 0 := fun x hx => (hi x hx).nz
  have two0 : ∀ {x y : Int}, x ≠ 0 → y ≠ 0 → ∀ z ∈ [x, y], z ≠ 0 := fun {x y} hx hy z hz => by
    rcases List.mem_cons.mp hz with rfl | hz
    · exact hx
    · rw [List.mem_singleton.mp hz]; exact hy
  have pair : ∀ {x y z : Int}, x ≠ 0 → y ≠ 0 → JD n c [x, y] z → truthF ts z r = (truthF ts x r && truthF ts y r) := fun {x y z} hx hy j => by
    rw [j.truth G C (two0 hx hy) hr]; simp
  have flip : ∀ {z : Int} {b : Bool}, z ≠ 0 → truthF ts (-z) r = b → truthF ts z r = !b := fun {z b} hz h => by
    rw [truth_neg hz] at h; rw [← h, Bool.not_not]
  cases T with
  | k0 j =>
    rw [j.truth G C h0 hr]
    show _ = !(ns.map fun x => truthF ts x r).contains false
    rw [Bool.eq_iff_iff]; simp
  | k1 j =>
    have := flip hg.nz (j.truth G C (fun x hx => by
      obtain ⟨y, hy, rfl⟩ := List.mem_map.mp hx
      exact (hi y hy).neg.nz) hr)
    rw [this]
    show _ = (ns.map fun x => truthF ts x r).contains true
    rw [Bool.eq_iff_iff]
    simp only [Bool.not_eq_true', List.all_eq_false, List.mem_map, List.contains_iff_mem]
    constructor
    · rintro ⟨z, ⟨y, hy, rfl⟩, e⟩
      rw [truth_neg (h0 y hy)] at e
      exact ⟨y, hy, by simpa using e⟩
    · rintro ⟨y, hy, e⟩
      exact ⟨-y, ⟨y, hy, rfl⟩, by rw [truth_neg (h0 y hy), e]; decide⟩
  | k2 x y e j =>
    subst e
    rw [pair (h0 x (.head _)) (h0 y (.tail _ (.head _))) j]
    show _ = ![truthF ts x r, truthF ts y r].contains false
    cases truthF ts x r <;> cases truthF ts y r <;> rfl
  | k3 x y e j =>
    subst e
    have hx := h0 x (.head _)
    have hy := h0 y (.tail _ (.head _))
    rw [flip hg.nz (pair (hi x (.head _)).neg.nz (hi y (.tail _ (.head _))).neg.nz j), truth_neg hx, truth_neg hy]
    show _ = [truthF ts x r, truthF ts y r].contains true
    cases truthF ts x r <;> cases truthF ts y r <;> rfl
  | k4 x y e j =>
    subst e
    have hx := h0 x (.head _)
    have hy := h0 y (.tail _ (.head _))
    rw [flip hg.nz (pair hx (hi y (.tail _ (.head _))).neg.nz j), truth_neg hy]
    show _ = if [truthF ts x r, truthF ts y r].getD 1 false then true else ![truthF ts x r, truthF ts y r].getD 0 false
    cases truthF ts x r <;> cases truthF ts y r <;> rfl
  | k5 x y u v e hu hv k1 k2 j1 j2 j =>
    subst e
    have hx := h0 x (.head _)
    have hy := h0 y (.tail _ (.head _))
    rw [pair hu.nz hv.nz j, flip hu.nz (pair hx (hi y (.tail _ (.head _))).neg.nz j1), flip hv.nz (pair hy (hi x (.head _)).neg.nz j2), truth_neg hx, truth_neg hy]
    show _ = ([truthF ts x r, truthF ts y r].getD 0 false == [truthF ts x r, truthF ts y r].getD 1 false)
    cases truthF ts x r <;> cases truthF ts y r <;> rfl
  | k6 x y u v e hu hv k1 k2 j1 j2 j =>
    subst e
    have hx := h0 x (.head _)
    have hy := h0 y (.tail _ (.head _))
    rw [flip hg.nz (pair hu.nz hv.nz j), flip hu.nz (pair hx (hi y (.tail _ (.head _))).neg.nz j1), flip hv.nz (pair hy (hi x (.head _)).neg.nz j2), truth_neg hx, truth_neg hy]
    show _ = (([truthF ts x r, truthF ts y r].getD 0 false == [truthF ts x r, truthF ts y r].getD 1 false) == false)
    cases truthF ts x r <;> cases truthF ts y r <;> rfl
  | k7 z x y u v e hu hv k1 k2 j1 j2 j =>
    subst e
    have hz := h0 z (.head _)
    have hx := h0 x (.tail _ (.head _))
    have hy := h0 y (.tail _ (.tail _ (.head _)))
    rw [pair hu.nz hv.nz j, flip hu.nz (pair hz (by omega) j1), flip hv.nz (pair (by omega) (by omega) j2), truth_neg hx, truth_neg hy, truth_neg hz]
    show _ = if [truthF ts z r, truthF ts x r, truthF ts y r].getD 0 false then [truthF ts z r, truthF ts x r, truthF ts y r].getD 1 false else [truthF ts z r, truthF ts x r, truthF ts y r].getD 2 false
    cases truthF ts z r <;> cases truthF ts x r <;> cases truthF ts y r <;> rfl
end Mine
end
-- text PureE
section
open PySem PySem.W PySem.Calls PyProof.Rows
set_option Elab.async false
set_option maxRecDepth 100000
set_option linter.unusedVariables false
namespace Mine
theorem again_of (c : Circ) (ns ms : List Int) (h : ∀ x, x ∈ ms ↔ x ∈ ns) (h0 : ∀ x ∈ ms, x ≠ 0) : allOf (allOf c ns).1 ms = allOf c ns := by
  rw [allOf_same (allOf c ns).1 h h0, allOf_again c (allOf c ns).1 ns (ExtK.refl _)]
theorem implies_refl (c : Circ) (x y : Int) : implies (implies c x y).1 x y = implies c x y := implies_again c _ x y (ExtK.refl _)
theorem pair_again {c : Circ} {u v u' v' x y x' y' g : Int} (k1 : implies c x y = (c, u)) (k2 : implies c x' y' = (c, v)) (c0 c2 : Circ) (e : allOf c2 [u, v] = (c, g)) : allOf (implies (implies c x y).1 x' y').1 [(implies c x y).2, (implies (implies c x y).1 x' y').2] = (c, g) := by
  rw [k1]; dsimp only; rw [k2]; dsimp only
  have := allOf_again c2 c [u, v] (by rw [e]; exact ExtK.refl _)
  rw [this, e]
theorem asked_again {n : Nat} {c : Circ} {kind : Int} {ns : List Int} (G : Good n c) (h0 : 0 ≤ kind) (h8 : kind < 8) (hl : ns.length ≤ 3) (ex : 2 ≤ kind → kind ≠ 7 → ns.length = 2) (ex3 : kind = 7 → 3 ≤ ns.length) (hi : ∀ x ∈ ns, InR c x) :
    askedF (askedF c kind ns).1 kind (againF kind ns) = askedF c kind ns := by
  have hz : ∀ x ∈ ns, x ≠ 0 := fun x hx => (hi x hx).nz
  have two0 : ∀ {x y : Int}, x ≠ 0 → y ≠ 0 → ∀ z ∈ [x, y], z ≠ 0 := fun {x y} hx hy z hz => by
    rcases List.mem_cons.mp hz with rfl | hz
    · exact hx
    · rw [List.mem_singleton.mp hz]; exact hy
  have rt : ∀ x, x ∈ ns.reverse ++ ns.take 1 ↔ x ∈ ns := fun x => by
    rw [List.mem_append, List.mem_reverse]
    exact ⟨fun h => h.elim id List.mem_of_mem_take, .inl⟩
  have hk : kind = 0 ∨ kind = 1 ∨ kind = 2 ∨ kind = 3 ∨ kind = 4 ∨ kind = 5 ∨ kind = 6 ∨ kind = 7 := by omega
  rcases hk with rfl | rfl | rfl | rfl | rfl | rfl | rfl | rfl
  · exact again_of c ns (ns.reverse ++ ns.take 1) rt fun x hx => hz x ((rt x).mp hx)
  · show neg (allOf (allOf c (ns.map fun x => -x)).1 ((ns.reverse ++ ns.take 1).map fun x => -x)) = neg (allOf c (ns.map fun x => -x))
    have e : ∀ x, x ∈ (ns.reverse ++ ns.take 1).map (fun x => -x) ↔ x ∈ ns.map fun x => -x := fun x => by
      simp only [List.mem_map, rt]
    rw [again_of c _ _ e fun x hx => ?_]
    obtain ⟨y, hy, rfl⟩ := List.mem_map.mp ((e x).mp hx)
    exact (hi y hy).neg.nz
  · obtain ⟨x, y, rfl⟩ := two_of (ex (by decide) (by decide))
    exact again_of c [x, y] [y, x] (two_mem y x) (two0 (hz y (.tail _ (.head _))) (hz x (.head _)))
  · obtain ⟨x, y, rfl⟩ := two_of (ex (by decide) (by decide))
    show neg (allOf (allOf c [-x, -y]).1 [-y, -x]) = neg (allOf c [-x, -y])
    rw [again_of c [-x, -y] [-y, -x] (two_mem _ _) (two0 (hi y (.tail _ (.head _))).neg.nz (hi x (.head _)).neg.nz)]
  · obtain ⟨x, y, rfl⟩ := two_of (ex (by decide) (by decide))
    exact implies_refl c x y
  · obtain ⟨x, y, rfl⟩ := two_of (ex (by decide) (by decide))
    have hx := hi x (.head _)
    have hy := hi y (.tail _ (.head _))
    obtain ⟨a, b, d, e, f, g, h, i, j, k⟩ := pair_jd G hx hy hy hx _ rfl _ _ rfl rfl (iffG c x y).1 (iffG c x y).2 rfl
    show iffG (iffG c x y).1 y x = iffG c x y
    unfold iffG at g h e f ⊢
    rw [h]; dsimp only; rw [g]; dsimp only
    rw [again_of _ _ _ (two_mem _ _) (two0 f.nz e.nz)]
  · obtain ⟨x, y, rfl⟩ := two_of (ex (by decide) (by decide))
    have hx := hi x (.head _)
    have hy := hi y (.tail _ (.head _))
    obtain ⟨a, b, d, e, f, g, h, i, j, k⟩ := pair_jd G hx hy hy hx _ rfl _ _ rfl rfl (iffG c x y).1 (iffG c x y).2 rfl
    show neg (iffG (iffG c x y).1 y x) = neg (iffG c x y)
    unfold iffG at g h e f ⊢
    rw [h]; dsimp only; rw [g]; dsimp only
    rw [again_of _ _ _ (two_mem _ _) (two0 f.nz e.nz)]
  · obtain ⟨z, x, y, rfl⟩ := three_of (Nat.le_antisymm hl (ex3 rfl))
    have hz := hi z (.head _)
    have hx := hi x (.tail _ (.head _))
    have hy := hi y (.tail _ (.tail _ (.head _)))
    obtain ⟨a, b, d, e, f, g, h, i, j, k⟩ := pair_jd G hz hx hz.neg hy _ rfl _ _ rfl rfl (choose c z x y).1 (choose c z x y).2 rfl
    show choose (choose c z x y).1 z x y = choose c z x y
    unfold choose at g h ⊢
    rw [g]; dsimp only; rw [h]; dsimp only
    exact allOf_again _ _ _ (ExtK.refl _)
theorem growN_keep (c : Circ) (ts : List (List Bool)) (sn : List (List Int)) {j k : Nat} (hj : j < ts.length + k) : ∀ d, (growN c ts sn (k + d)).1.getD j [] = (growN c ts sn k).1.getD j []
  | 0 => rfl
  | d + 1 => by
    rw [← growN_keep c ts sn hj d, ← Nat.add_assoc]
    simp only [growN, List.getD_eq_getElem?_getD]
    rw [List.getElem?_append_left (by rw [growN_length]; omega)]
theorem growN_keep' (c : Circ) (ts : List (List Bool)) (sn : List (List Int)) {j k l : Nat} (hj : j < ts.length + k) (h : k ≤ l) : (growN c ts sn l).1.getD j [] = (growN c ts sn k).1.getD j [] := by
  have := growN_keep c ts sn hj (l - k)
  rw [show k + (l - k) = l by omega] at this
  exact this
theorem growN_at (c : Circ) (ts : List (List Bool)) (sn : List (List Int)) {k l : Nat} (h : k < l) : (growN c ts sn l).1.getD (ts.length + k) [] = rowOf (growN c ts sn k).1 (c.parts.getD (ts.length + k) []) := by
  rw [growN_keep' c ts sn (j := ts.length + k) (k := k + 1) (by omega) h]
  simp only [growN, List.getD_eq_getElem?_getD]
  rw [List.getElem?_append_right (by rw [growN_length]; omega), growN_length]
  simp
theorem growN_seen (c : Circ) (ts : List (List Bool)) (sn : List (List Int)) : ∀ k, (growN c ts sn k).2 = sn ++ (c.parts.drop ts.length).take k ∨ c.parts.length < ts.length + k
  | 0 => .inl (by simp [growN])
  | k + 1 => by
    rcases growN_seen c ts sn k with h | h
    · by_cases hk : ts.length + k < c.parts.length
      · refine .inl ?_
        simp only [growN]
        rw [h, List.append_assoc]
        congr 1
        rw [List.take_add_one, List.getElem?_drop, List.getElem?_eq_getElem hk, List.getD_eq_getElem?_getD, List.getElem?_eq_getElem hk]
        rfl
      · exact .inr (by omega)
    · exact .inr (by omega)
theorem truth_cong {ts us : List (List Bool)} {x : Int} {r : Nat} (h : ts.getD (ab x).toNat [] = us.getD (ab x).toNat []) : truthF ts x r = truthF us x r := by unfold truthF; rw [h]
section
variable {n R d : Nat} {c c' : Circ} {ts : List (List Bool)} {sn : List (List Int)}
theorem grown_coh (G : Good n c) (G' : Good n c') (E : Ext d c c') (C : Coh n R c ts sn) : Coh n R c' (growN c' ts sn (c'.kinds.length - ts.length)).1 (growN c' ts sn (c'.kinds.length - ts.length)).2 := by
  have hnl := G.nl
  have htl := C.tl
  have hle := E.len.1
  obtain ⟨K, hK⟩ : ∃ K, K = c'.kinds.length - ts.length := ⟨_, rfl⟩
  have hKl : ts.length + K = c'.kinds.length := by omega
  rw [← hK]
  refine ⟨by rw [growN_length]; exact hKl, fun i h1 h2 => growN_row c' ts sn (by omega) C.row K i h1 (by rw [growN_length] at h2; exact h2), fun r hr => ?_, fun g h1 h2 r hr => ?_, ?_⟩
  · rw [growN_old c' ts sn (by omega)]; exact C.one r hr
  · rw [growN_length] at h2
    by_cases hg : g < ts.length
    · rw [growN_old c' ts sn hg, C.gate g h1 hg r hr, E.part (by rw [G.pl]; omega)]
      rw [Bool.eq_iff_iff, List.all_eq_true, List.all_eq_true]
      have e : ∀ x ∈ c.parts.getD g [], truthF ts x r = truthF (growN c' ts sn K).1 x r := fun x hx => truth_cong (by
        have := G.under g h1 (by omega) x hx
        rw [growN_old c' ts sn (by omega)])
      exact ⟨fun h x hx => (e x hx) ▸ h x hx, fun h x hx => (e x hx).symm ▸ h x hx⟩
    · obtain ⟨k, rfl⟩ : ∃ k, g = ts.length + k := ⟨g - ts.length, by omega⟩
      have hk : k < K := by omega
      rw [growN_at c' ts sn hk]
      have hR : ((growN c' ts sn k).1.getD 1 []).length = R := growN_row c' ts sn (by omega) C.row k 1 (Nat.le_refl _) (by omega)
      have hrow : (rowOf (growN c' ts sn k).1 (c'.parts.getD (ts.length + k) [])).getD r false = decide (((c'.parts.getD (ts.length + k) []).filter fun x => !truthF (growN c' ts sn k).1 x r) = []) := by
        unfold rowOf
        rw [hR, List.getD_eq_getElem?_getD, List.getElem?_map, List.getElem?_range hr]; rfl
      rw [hrow]
      have e : ∀ x ∈ c'.parts.getD (ts.length + k) [], truthF (growN c' ts sn k).1 x r = truthF (growN c' ts sn K).1 x r := fun x hx => truth_cong (by
        have := G'.under (ts.length + k) h1 (by omega) x hx
        exact (growN_keep' c' ts sn (k := k) (l := K) (by omega) (by omega)).symm)
      rw [Bool.eq_iff_iff, List.all_eq_true, decide_eq_true_iff, List.filter_eq_nil_iff]
      constructor
      · intro h x hx; rw [← e x hx]; simpa using h x hx
      · intro h x hx; rw [e x hx, h x hx]; decide
  · rcases growN_seen c' ts sn K with h | h
    · rw [h, C.sn]
      obtain ⟨ks, ps, km, k1, k2, k3, k4, k5, k6⟩ := E.ex
      have hp := G.pl
      have hp' := G'.pl
      rw [htl, List.take_of_length_le (by rw [List.length_drop]; omega), k2, List.drop_append_of_le_length (i := c.kinds.length) (by omega), List.drop_append_of_le_length (i := n + 2) (by omega), List.drop_of_length_le (l := c.parts) (i := c.kinds.length) (by omega), List.nil_append]
    · have hp' := G'.pl; omega
theorem known_inj (G : Good n c) {g h : Nat} (h1 : n + 2 ≤ g) (h2 : g < c.kinds.length) (h3 : n + 2 ≤ h) (h4 : h < c.kinds.length) (e : c.parts.getD g [] = c.parts.getD h []) : g = h := by
  have a := (G.known _ _).mpr ⟨g, h1, h2, rfl, rfl⟩
  have b := (G.known _ _).mpr ⟨h, h3, h4, rfl, rfl⟩
  rw [e, b] at a
  have := Option.some.inj a
  omega
theorem grown_ok (G : Good n c) (G' : Good n c') (E : Ext d c c') (C : Coh n R c ts sn) (k : Nat) (hk : ts.length + k < c'.kinds.length) : GateOk c' (growN c' ts sn k).2 (ts.length + k) := by
  have hnl := G.nl
  have htl := C.tl
  have h1 : n + 2 ≤ ts.length + k := by omega
  refine ⟨G'.kind _ h1 hk, by rw [G'.pl]; exact hk, (G'.two _ h1 hk).1, Nat.le_succ_of_le (G'.two _ h1 hk).2, G'.sorted _ h1 hk, ?_, G'.under _ h1 hk, fun hm => ?_⟩
  · rw [List.filter_eq_nil_iff]
    intro x hx hy
    rw [List.any_eq_true] at hy
    obtain ⟨y, hy, e⟩ := hy
    simp at e; subst e
    exact G'.plain _ h1 hk x hx hy
  · have hp' := G'.pl
    rcases growN_seen c' ts sn k with h | h
    · rw [h] at hm
      rcases List.mem_append.mp hm with hm | hm
      · rw [C.sn] at hm
        obtain ⟨i, hi, e⟩ := List.mem_iff_getElem.mp hm
        rw [List.length_drop] at hi
        rw [List.getElem_drop] at e
        have hp := G.pl
        have e' : c'.parts.getD (n + 2 + i) [] = c'.parts.getD (ts.length + k) [] := by
          rw [E.part (g := n + 2 + i) (by omega), List.getD_eq_getElem?_getD, List.getElem?_eq_getElem (by omega), Option.getD_some]; exact e
        have := known_inj G' (by omega) (by omega) h1 hk e'
        omega
      · obtain ⟨i, hi, e⟩ := List.mem_iff_getElem.mp hm
        rw [List.length_take, List.length_drop] at hi
        rw [List.getElem_take, List.getElem_drop] at e
        have e' : c'.parts.getD (ts.length + i) [] = c'.parts.getD (ts.length + k) [] := by
          rw [List.getD_eq_getElem?_getD, List.getElem?_eq_getElem (by omega), Option.getD_some]; exact e
        have := known_inj G' (by omega) (by omega) h1 hk e'
        omega
    · omega
end
theorem inv_turn {n R lap : Nat} {st : LS} (I : Inv n R lap st) (hl : lap < 7) (kind : Int) (h0 : 0 ≤ kind) (h8 : kind < 8) (ns : List Int) (h : ArgsOk st kind ns) : TurnOk R st kind ns := by
  have G := I.good
  have C := I.coh
  obtain ⟨G', E, hg, T⟩ := told G h0 h8 h.len h.ex h.three h.inn
  have hnl := G.nl
  have hkl := I.kl
  have hpl := G.pl
  have hpl' := G'.pl
  have hel := (E.le (e := 3) (by split <;> omega)).len
  have hn3 := I.n3
  have htl := C.tl
  have hi' : ∀ x ∈ ns, InR (askedF st.c kind ns).1 x := fun x hx => (InR.ext (h.inn x hx) E)
  have C' := grown_coh G G' E C
  refine ⟨?_, ?_, hpl', by omega, by omega, C.row, ?_, grown_ok G G' E C, ?_, hg.1, hi', fun row hr => T.truth G' C' hg hi' hr, T.settled G' hi', asked_again G h0 h8 h.len h.ex h.three h.inn⟩
  · have := I.small
    unfold Small; omega
  · have := E.len.2.1
    split at this <;> split <;> omega
  · rw [C.sn, List.length_drop]; omega
  · have := hg.2
    have := hg.1
    unfold Has; omega
theorem inv_next {n R lap : Nat} {st : LS} (I : Inv n R lap st) (hl : lap < 7) (kind : Int) (h0 : 0 ≤ kind) (h8 : kind < 8) (ns : List Int) (h : ArgsOk st kind ns) (k' : Int) (hk0 : st.k ≤ k') (hk1 : k' ≤ st.k + 8) :
  Inv n R (lap + 1) ⟨(askedF st.c kind ns).1, (tsN st (askedF st.c kind ns).1).1, (tsN st (askedF st.c kind ns).1).2, if ab (askedF st.c kind ns).2 ∈ st.ss then st.ss else st.ss ++ [ab (askedF st.c kind ns).2], k'⟩ := by
  have G := I.good
  have C := I.coh
  obtain ⟨G', E, hg, T⟩ := told G h0 h8 h.len h.ex h.three h.inn
  have hel := (E.le (e := 3) (by split <;> omega)).len
  have hkl := I.kl
  have hs := I.small
  have hs1 := I.ss1
  have hs2 := I.ss2
  have hk := I.k0
  have hk' := I.k1
  refine ⟨I.n2, I.n3, ?_, ?_, G', ?_, ?_, grown_coh G G' E C, ?_, ?_, fun x hx => ?_⟩ <;> dsimp only
  · omega
  · omega
  · omega
  · omega
  · split
    · exact hs1
    · rw [List.length_append]; omega
  · split
    · omega
    · rw [List.length_append, List.length_singleton]; omega
  · dsimp only at hx
    have hx' : x ∈ st.ss ∨ x = ab (askedF st.c kind ns).2 := by
      split at hx
      · exact .inl hx
      · rcases List.mem_append.mp hx with hx | hx
        · exact .inl hx
        · exact .inr (List.mem_singleton.mp hx)
    rcases hx' with hx | rfl
    · have := I.ssin x hx; omega
    · exact hg
theorem inv_start (n R : Nat) (h : (n = 2 ∧ R = 4) ∨ (n = 3 ∧ R = 8)) : Inv n R 0 ⟨circI n, tsI R n, [], 1 :: insI n, 1⟩ := by
  have hc : (circI n).kinds.length = n + 2 := circI_kinds n
  have hp : (circI n).parts.length = n + 2 := circI_parts n
  have ht : (tsI R n).length = n + 2 := by simp [tsI]
  refine ⟨by omega, by omega, (by decide : (0 : Int) ≤ 1), (by decide : (1 : Int) ≤ 1 + 8 * ((0 : Nat) : Int)), ⟨by dsimp only; omega, by dsimp only; omega, ?_, ?_, ?_, ?_, ?_, ?_, ?_⟩, by rw [show (circI n).known = [] from circI_known n]; decide, by dsimp only; omega, ⟨?_, ?_, ?_, ?_, ?_⟩, ?_, ?_, ?_⟩ <;> dsimp only
  · intro g h1 h2
    rcases h with ⟨rfl, _⟩ | ⟨rfl, _⟩
    · have : g = 2 ∨ g = 3 := by omega
      rcases this with rfl | rfl <;> exact ⟨rfl, rfl⟩
    · have : g = 2 ∨ g = 3 ∨ g = 4 := by omega
      rcases this with rfl | rfl | rfl <;> exact ⟨rfl, rfl⟩
  · intro g h1 h2; omega
  · intro g h1 h2; omega
  · intro g h1 h2; omega
  · intro g h1 h2; omega
  · intro g h1 h2; omega
  · intro p q
    rw [circI_known]
    constructor
    · intro h; cases h
    · rintro ⟨g, h1, h2, _⟩; omega
  · omega
  · intro i h1 h2
    rw [ht] at h2
    rcases h with ⟨rfl, rfl⟩ | ⟨rfl, rfl⟩
    · have : i = 1 ∨ i = 2 ∨ i = 3 := by omega
      rcases this with rfl | rfl | rfl <;> rfl
    · have : i = 1 ∨ i = 2 ∨ i = 3 ∨ i = 4 := by omega
      rcases this with rfl | rfl | rfl | rfl <;> rfl
  · intro r hr
    show (List.replicate R true).getD r false = true
    rw [List.getD_eq_getElem?_getD, List.getElem?_replicate, if_pos hr]; rfl
  · intro g h1 h2; omega
  · rw [List.drop_of_length_le (by omega)]
  · simp
  · simp [insI]; omega
  · intro x hx
    rcases List.mem_cons.mp hx with rfl | hx
    · omega
    · unfold insI at hx
      obtain ⟨j, hj, rfl⟩ := List.mem_map.mp hx
      rw [List.mem_range] at hj
      omega
end Mine
end
-- text LawLap
section
open PySem PySem.W PySem.Calls PyProof.Rows
set_option Elab.async false
set_option maxRecDepth 100000
set_option linter.unusedVariables false
namespace Mine
/-- the loop's own objects, and the rest of the ledger's tail -/
structure Two (own V X tl rl : List (Addr × Obj)) : Prop where
  v : ∀ p ∈ V, p ∈ X
  o : ∀ p ∈ own, p ∈ X
  n : ∀ p ∈ own, ∀ q ∈ V, @Ne Nat p.1 q.1
  t : ∀ p ∈ tl, p ∈ V
  r : ∀ p ∈ rl, p ∈ V
section
variable {own V X tl rl ad : List (Addr × Obj)}
theorem Two.add (T : Two own V X tl rl) (h : ∀ p ∈ ad, ∀ q ∈ X, @Ne Nat p.1 q.1) : Two own (ad ++ V) (ad ++ X) tl rl where
  v := fun p hp => (List.mem_append.mp hp).elim (fun h => List.mem_append_left _ h) fun h => List.mem_append_right _ (T.v p h)
  o := fun p hp => List.mem_append_right _ (T.o p hp)
  n := fun p hp q hq => (List.mem_append.mp hq).elim (fun hq => Ne.symm (h q hq p (T.o p hp))) fun hq => T.n p hp q hq
  t := fun p hp => List.mem_append_right _ (T.t p hp)
  r := fun p hp => List.mem_append_right _ (T.r p hp)
theorem Two.net (T : Two own V X tl rl) (h : ∀ p ∈ ad, ∀ q ∈ X, @Ne Nat p.1 q.1) : Two own (ad ++ V) (ad ++ X) (ad ++ tl) rl :=
  { T.add h with t := fun p hp => (List.mem_append.mp hp).elim (fun h => List.mem_append_left _ h) fun h => List.mem_append_right _ (T.t p h) }
theorem Two.row (T : Two own V X tl rl) (h : ∀ p ∈ ad, ∀ q ∈ X, @Ne Nat p.1 q.1) : Two own (ad ++ V) (ad ++ X) tl (ad ++ rl) :=
  { T.add h with r := fun p hp => (List.mem_append.mp hp).elim (fun h => List.mem_append_left _ h) fun h => List.mem_append_right _ (T.r p h) }
theorem Two.one {f : Addr × Obj} (T : Two own V X tl rl) (h : ∀ q ∈ X, @Ne Nat f.1 q.1) : Two own (f :: V) (f :: X) tl rl :=
  T.add (ad := [f]) fun p hp q hq => by rw [List.mem_singleton.mp hp]; exact h q hq
end
section
variable {w : World} {A : LA} {L : Nat} {c0 : Addr} {cvs : List Value} {b : Int} {own V X W tl rl tl0 rl0 : List (Addr × Obj)} {st st0 : LS} {ot os oo od ok op on ot0 os0 oo0 od0 ok0 op0 on0 cr cr0 : Obj}
theorem Lap.start (J : Lap w A L c0 cvs b W tl rl st ot os oo od ok op on) (hX : X = W ++ own) (o : OwnOff own ((lst A ot os oo od ok op on cr W).map (·.1))) : Lap w A L c0 cvs b X tl rl st ot os oo od ok op on ∧ Two own W X tl rl := by
  subst hX
  have hx : OwnOff own A.xs := fun p hp x hx e => by
    obtain ⟨y, hy⟩ := lst_has (ot := ot) (os := os) (oo := oo) (od := od) (ok := ok) (op := op) (on := on) (orow := cr) (W := W) x hx
    exact o p hp x (List.mem_map.mpr ⟨_, hy, rfl⟩) e
  exact ⟨J.of (J.led.own hx) fun p hp => List.mem_append_left _ hp, ⟨fun p hp => List.mem_append_left _ hp, fun p hp => List.mem_append_right _ hp, fun p hp q hq => o p hp q.1 (List.mem_map.mpr ⟨q, lst_W hq, rfl⟩), J.led.tlW, J.led.rlW⟩⟩
theorem Lap.shrink (K : Lap w A L c0 cvs b X tl rl st ot os oo od ok op on) (J : Lap w A L c0 cvs b W tl0 rl0 st0 ot0 os0 oo0 od0 ok0 op0 on0) (T : Two own V X tl rl) (s : ∀ p ∈ W, p ∈ V) : Lap w A L c0 cvs b V tl rl st ot os oo od ok op on where
  led := { K.led with off := fun p hp => K.led.off p (T.v p hp), tlW := T.t, rlW := T.r, nN := J.led.nN.mono s, cl := let ⟨n, h⟩ := J.led.cl; ⟨n, s _ h⟩ }
  cr := K.cr
  net := let ⟨o, h, e⟩ := J.net; ⟨o, s _ h, e⟩
  tab := let ⟨o, h, e⟩ := J.tab; ⟨o, s _ h, e⟩
theorem Two.off (T : Two own V X tl rl) (K : Lap w A L c0 cvs b X tl rl st ot os oo od ok op on) : OwnOff own ((lst A ot os oo od ok op on cr V).map (·.1)) := fun p hp x hx e => by
  obtain ⟨q, hq, rfl⟩ := List.mem_map.mp hx
  rcases lst_addr q hq with h | h
  · exact K.led.off p (T.o p hp) _ h e
  · exact T.n p hp q h e
theorem lst_sub (s : ∀ p ∈ V, p ∈ X) : ∀ p ∈ lst A ot os oo od ok op on cr V, p ∈ lst A ot os oo od ok op on cr X := fun p hp => by
  simp only [lst, List.mem_cons] at hp ⊢
  rcases hp with h | h | h | h | h | h | h | h | h
  all_goals first | (simp only [h, true_or, or_true]; done) | (simp only [s _ h, or_true])
end
end Mine
end
-- text LawLap2
section
open PySem PySem.W PySem.Calls PyProof.Rows
set_option Elab.async false
set_option maxRecDepth 100000
set_option linter.unusedVariables false
namespace Mine
section
variable {w : World} {mean : ExcName → Option Value} {mg mb : Str → Option Value} {base g : Heap} {dp un : Nat} {gd : Option (List Code)} {fr : List Env} {s : Shared}
variable {a : LA} {c0 : Addr} {cvs : List Value} {b : Int} {W tl rl news : List (Addr × Obj)} {st : LS} {ot os oo od ok op on orow : Obj} {A₀ : Around} {env : Env} {L : Addr} {m : Str → Option Value} {Q E : Value → Shared → Prop}
theorem led_truth {gg : Int} {tg : Tok} {row : Int} {tr : Tok}
    (B : Below A₀ base fr g) (F : Fr g L s.heap m) (X : (hd.heap_39 w.params).In g) (T : TT mean mg mb g) (N : News g L s.heap news) (hf : env.frame = some L) (hke : env.scope.kind = .function)
    (hd' : dp + 2 < recursionLimit) (hu : un + 10 < cLine) (J : Led w a c0 cvs b W tl rl st ot os oo od ok op on) (hsub : ∀ p ∈ lst a ot os oo od ok op on orow W, p ∈ news)
    (hts : st.ts.length ≤ 1000) (hlt : (ab gg).toNat < st.ts.length) (h0 : 0 ≤ row) (hr : row ≤ 100) (hrow : row.toNat < (st.ts.getD (ab gg).toNat []).length)
    (k : ∀ h' tk', Fr g L h' m → News g L h' news → Q (.bool (truthF st.ts gg row.toNat)) { s with heap := h', toks := tk' }) :
    wpAny (model PG w) (ar dp un gd (env :: fr)) (call (.ref 176) [.ref a.tb, .int gg tg, .int row tr]) Q E s := by
  obtain ⟨rs, n1, rfl, hrs⟩ := J.tb
  have m1 : (a.tb, PySem.W.listOf (List.toArray rs) n1) ∈ lst a (PySem.W.listOf (List.toArray rs) n1) os oo od ok op on orow W := by simp [lst]
  exact truth_use (n1 := n1) B F X T N hf hke hd' hu (hsub _ m1) hrs (fun p hp => .inl (hsub _ (lst_W (J.rlW p hp)))) hts hlt h0 hr hrow k
theorem turn_truth {R row : Nat} {x : Int} {tg tr : Tok} {kind : Int} {ns : List Int} {sn' : List (List Int)} {ss' : List Int} {k' : Int} (TK : TurnOk R st kind ns) (hR8 : R ≤ 8) (hrow : row < R)
    (B : Below A₀ base fr g) (F : Fr g L s.heap m) (X : (hd.heap_39 w.params).In g) (T : TT mean mg mb g) (N : News g L s.heap news) (hf : env.frame = some L) (hke : env.scope.kind = .function)
    (hd' : dp + 2 < recursionLimit) (hu : un + 10 < cLine) (J : Led w a c0 cvs b W tl rl ⟨(askedF st.c kind ns).1, (growN (askedF st.c kind ns).1 st.ts st.sn ((askedF st.c kind ns).1.kinds.length - st.ts.length)).1, sn', ss', k'⟩ ot os oo od ok op on) (hsub : ∀ p ∈ lst a ot os oo od ok op on orow W, p ∈ news)
    (hx : 1 ≤ ab x ∧ ab x < ((askedF st.c kind ns).1.kinds.length : Int))
    (k : ∀ h' tk', Fr g L h' m → News g L h' news → Q (.bool (truthF (tsN st (askedF st.c kind ns).1).1 x row)) { s with heap := h', toks := tk' }) :
    wpAny (model PG w) (ar dp un gd (env :: fr)) (call (.ref 176) [.ref a.tb, .int x tg, .int (0 + (row : Int)) tr]) Q E s := by
  have hl := tsN_length st (askedF st.c kind ns).1 TK.htk
  have hr := tsN_row st (askedF st.c kind ns).1 TK.htk TK.ht2 TK.hrow
  have hs := TK.small.1
  have e : ((0 : Int) + (row : Int)).toNat = row := by omega
  have hj : (ab x).toNat < (askedF st.c kind ns).1.kinds.length := by omega
  refine led_truth B F X T N hf hke hd' hu J hsub (by show (tsN st (askedF st.c kind ns).1).1.length ≤ 1000; omega) (by show _ < (tsN st (askedF st.c kind ns).1).1.length; omega) (by omega) (by omega) ?_ ?_
  · show _ < ((tsN st (askedF st.c kind ns).1).1.getD (ab x).toNat []).length
    rw [hr _ (by omega) hj, e]; exact hrow
  · rw [e]; exact k
theorem TurnOk.bound {R : Nat} {kind : Int} {ns : List Int} (TK : TurnOk R st kind ns) : ∀ x ∈ ns, -1000 ≤ x ∧ x ≤ 1000 := fun x hx => by
  have h1 := TK.inn x hx
  have h2 := TK.small.1
  unfold ab at h1
  split at h1 <;> omega
theorem again_len (k : Int) (ns : List Int) : (againF k ns).length ≤ ns.length + 1 ∧ (2 ≤ k → (againF k ns).length = ns.length) := by
  unfold againF
  split
  · simp only [List.length_append, List.length_reverse, List.length_take]; omega
  · split <;> simp
theorem not_some {A : Around} {vs : List Value} {n : Nat} {ss : List Int} {x : Int} {tx : Tok} (N : News g L s.heap (lst a ot os (PySem.W.listOf (List.toArray vs) n) od ok op on orow W)) (hi : IntsAre vs ss) (k : Q (.bool (decide (x ∉ ss))) s) :
    wpAny (model PG w) A (compareOp .NotIn (.int x tx) (.ref a.so)) Q E s := by
  have hm : (a.so, PySem.W.listOf (List.toArray vs) n) ∈ lst a ot os (PySem.W.listOf (List.toArray vs) n) od ok op on orow W := by simp [lst]
  refine notin_list_ints (vs := vs) ⟨_, N.get hm, rfl, n, rfl⟩ hi ?_
  have e : (!(ss.any fun y => y == x)) = decide (x ∉ ss) := by
    rw [Bool.eq_iff_iff]
    simp only [Bool.not_eq_true', List.any_eq_false, beq_iff_eq, decide_eq_true_iff]
    exact ⟨fun h q => h _ q rfl, fun h y hy q => h (q ▸ hy)⟩
  rw [e]; exact k
theorem led_kind {gg : Int} {t0 : Tok} {x : Str} {n : Nat}
    (B : Below A₀ base fr g) (F : Fr g L s.heap m) (X : (hd.heap_39 w.params).In g) (T : TT mean mg mb g) (N : News g L s.heap news) (hf : env.frame = some L) (hke : env.scope.kind = .function)
    (hd' : dp + 2 < recursionLimit) (hu : un + 10 < cLine) (J : Led w a c0 cvs b W tl rl st ot os oo od ok op on) (hsub : ∀ p ∈ lst a ot os oo od ok op on orow W, p ∈ news) (hs : Small st.c n) (hz : n ≤ 900) (h1 : -1000 ≤ gg) (h2 : gg ≤ 1000) (hx : st.c.kinds[(ab gg).toNat]? = some x)
    (k : ∀ t h' tk', Fr g L h' m → News g L h' news → Q (.str x t) { s with heap := h', toks := tk' }) :
    wpAny (model PG w) (ar dp un gd (env :: fr)) (call (.ref 42) [.ref a.net.net, .int gg t0]) Q E s := by
  have hlt : (ab gg).toNat < st.c.kinds.length := by
    rcases Nat.lt_or_ge (ab gg).toNat st.c.kinds.length with h | h
    · exact h
    · rw [List.getElem?_eq_none h] at hx; cases hx
  refine kind_use B F X T N hf hke hd' hu (J.read (news_sub N hsub)) (by have := hs.1; omega) h1 h2 hlt fun x' t h' tk' F' N' e => ?_
  rw [hx] at e
  cases e
  exact k t h' tk' F' N'
theorem led_parts {gg : Int} {t0 : Tok} {p : List Int} {n : Nat}
    (B : Below A₀ base fr g) (F : Fr g L s.heap m) (X : (hd.heap_39 w.params).In g) (T : TT mean mg mb g) (N : News g L s.heap news) (hf : env.frame = some L) (hke : env.scope.kind = .function)
    (hd' : dp + 2 < recursionLimit) (hu : un + 10 < cLine) (J : Led w a c0 cvs b W tl rl st ot os oo od ok op on) (hsub : ∀ p ∈ lst a ot os oo od ok op on orow W, p ∈ news) (hs : Small st.c n) (hz : n ≤ 900) (h1 : -1000 ≤ gg) (h2 : gg ≤ 1000) (hx : st.c.parts[(ab gg).toNat]? = some p)
    (k : ∀ t o h' tk', Fr g L h' m → News g L h' news → (t, o) ∈ news → TupObj p o → Q (.ref t) { s with heap := h', toks := tk' }) :
    wpAny (model PG w) (ar dp un gd (env :: fr)) (call (.ref 49) [.ref a.net.net, .int gg t0]) Q E s := by
  have hlt : (ab gg).toNat < st.c.parts.length := by
    rcases Nat.lt_or_ge (ab gg).toNat st.c.parts.length with h | h
    · exact h
    · rw [List.getElem?_eq_none h] at hx; cases hx
  refine parts_use B F X T N hf hke hd' hu (J.read (news_sub N hsub)) (by have := hs.2.1; omega) h1 h2 hlt fun t o p' h' tk' F' N' hm ho e => ?_
  rw [hx] at e
  cases e
  exact k t o h' tk' F' N' (hsub _ (lst_W (J.tlW _ hm))) ho
theorem Lap.grow_some {L0 : Nat} {vs : List Value} {n : Nat} {x : Int} {tx : Tok} (J : Lap w a L0 c0 cvs b W tl rl st ot os (PySem.W.listOf (List.toArray vs) n) od ok op on) (hi : IntsAre vs st.ss) :
    Lap w a L0 c0 cvs b W tl rl { st with ss := st.ss ++ [x] } ot os (PySem.W.listOf (List.toArray (vs ++ [.int x tx])) (n + 1)) od ok op on :=
  J.of { J.led with so := ⟨_, _, rfl, hi.append (.cons _ _ .nil)⟩ } fun _ h => h
theorem law_said {kind : Int} {tk₀ : Tok} {ga : Addr} {bs : List Bool}
    (B : Below A₀ base fr g) (F : Fr g L s.heap m) (X : (hd.heap_39 w.params).In g) (T : TT mean mg mb g) (N : News g L s.heap news) (hf : env.frame = some L) (hke : env.scope.kind = .function)
    (hd' : dp + 2 < recursionLimit) (hu : un + 10 < cLine) (h0 : 0 ≤ kind) (h8 : kind < 8) (hm : (ga, LCg.lst (bs.map Value.bool)) ∈ news) (hn : bs.length ≤ 10) (h2 : 2 ≤ kind → 2 ≤ bs.length) (h7 : kind = 7 → 3 ≤ bs.length)
    (k : ∀ h' tk', Fr g L h' m → News g L h' news → Q (.bool (saidF kind bs)) { s with heap := h', toks := tk' }) :
    wpAny (model PG w) (ar dp un gd (env :: fr)) (call (.ref 152) [.int kind tk₀, .ref ga]) Q E s :=
  use_read (P₀ := fun g => g.IsList ga (List.toArray (bs.map Value.bool))) (PV := fun _ v _ => v = .bool (saidF kind bs)) (said_ctr w mean mg mb kind tk₀ h0 h8 ga bs hn h2 h7) B F X T N hf hke hd' hu ⟨_, N.get hm, rfl, _, rfl⟩
    fun v h' tk' F' N' _ p => by subst p; exact k h' tk' F' N'
end
end Mine
end
-- text LawPost
section
open PySem PySem.W PySem.Calls PyProof.Rows
set_option Elab.async false
set_option maxRecDepth 100000
set_option linter.unusedVariables false
namespace Mine
/-- the states between the law's statements: predicates of one constructor, so that a case stores its goal once -/
noncomputable abbrev FrL (s₁ : Shared) (h : Heap) (m : Str → Option Value) : Prop := Fr s₁.heap s₁.heap.objs.size h m
inductive P1 (w : World) (s₁ : Shared) (cr ck ct cn : Obj) : Shared → Prop
  | mk (h : Heap) (tk : Nat) (m : Str → Option Value) (D d : Addr) (o : Obj) (b : Int) (cvs : List Value) (cns : List Int) (F : Fr s₁.heap s₁.heap.objs.size h m) (mf : m "feed" = some (.ref d))
      (N : News s₁.heap s₁.heap.objs.size h [(D, PySem.W.listOf (List.toArray cvs) 0), (d, o), (s₁.heap.objs.size + 1 + 1 + 1 + 1, cr), (s₁.heap.objs.size + 1 + 1 + 1, ck), (s₁.heap.objs.size + 1 + 1, ct), (s₁.heap.objs.size + 1, cn)])
      (fd : FeedObj w D b 0 o) (hi : IntsAre cvs cns) (hn : cns.length ≤ 63) (h0 : 0 ≤ b) (h1 : b ≤ 100000) (l1 : @LT.lt Nat _ (s₁.heap.objs.size + 1 + 1 + 1 + 1) d) (l2 : @LT.lt Nat _ d D) : P1 w s₁ cr ck ct cn { s₁ with heap := h, toks := tk }
section
variable (w : World) (s₁ : Shared) (cr ck ct : Obj) (D : Addr) (cvs : List Value) (b : Int) (d : Addr)
inductive P2 : Shared → Prop
  | mk (h : Heap) (tk : Nat) (m : Str → Option Value) (a : NA) (od ok op on : Obj) (W tl : List (Addr × Obj)) (many : Int) (t : Tok) (F : Fr s₁.heap s₁.heap.objs.size h m) (mf : m "feed" = some (.ref d)) (mm : m "many" = some (.int many t)) (h2 : 2 ≤ many) (h4 : many < 4)
      (N : News s₁.heap s₁.heap.objs.size h (lst2 a d s₁.heap.objs.size od ok op on cr ck ct W)) (J : Pre2 w a d s₁.heap.objs.size D cvs b W tl circ0 1 od ok op on) : P2 { s₁ with heap := h, toks := tk }
variable (a : NA) (od : Obj) (many : Int) (tm : Tok)
inductive P3 : Shared → Prop
  | mk (h : Heap) (tk : Nat) (m : Str → Option Value) (ok op on : Obj) (W tl : List (Addr × Obj)) (il : Addr) (ivs : List Value) (F : Fr s₁.heap s₁.heap.objs.size h m) (mf : m "feed" = some (.ref d)) (mm : m "many" = some (.int many tm)) (mi : m "inputs" = some (.ref il))
      (N : News s₁.heap s₁.heap.objs.size h (lst2 a d s₁.heap.objs.size od ok op on cr ck ct W)) (J : Pre2 w a d s₁.heap.objs.size D cvs b W tl (circI many.toNat) 1 od ok op on) (hil : (il, LCg.lst ivs) ∈ W) (hivs : IntsAre ivs (insI many.toNat)) : P3 { s₁ with heap := h, toks := tk }
variable (ok op on : Obj) (W : List (Addr × Obj)) (il : Addr) (ivs : List Value)
inductive P4 : Shared → Prop
  | mk (h : Heap) (tk : Nat) (m : Str → Option Value) (F : Fr s₁.heap s₁.heap.objs.size h m) (mf : m "feed" = some (.ref d)) (mm : m "many" = some (.int many tm)) (mi : m "inputs" = some (.ref il))
      (N : News s₁.heap s₁.heap.objs.size h (lst2 a d s₁.heap.objs.size od ok op on cr ck ct W)) : P4 { s₁ with heap := h, toks := tk }
variable (R : Nat)
inductive P5 : Shared → Prop
  | mk (h : Heap) (tk : Nat) (m : Str → Option Value) (tR : Tok) (F : Fr s₁.heap s₁.heap.objs.size h m) (mf : m "feed" = some (.ref d)) (mm : m "many" = some (.int many tm)) (mi : m "inputs" = some (.ref il)) (mr : m "rows" = some (.int (R : Int) tR))
      (N : News s₁.heap s₁.heap.objs.size h (lst2 a d s₁.heap.objs.size od ok op on cr ck ct W)) : P5 { s₁ with heap := h, toks := tk }
variable (tR : Tok)
inductive P6 : Shared → Prop
  | mk (h : Heap) (tk : Nat) (m : Str → Option Value) (tb sb so : Addr) (ot os oo : Obj) (W tl rl : List (Addr × Obj)) (F : Fr s₁.heap s₁.heap.objs.size h m) (mf : m "feed" = some (.ref d)) (mm : m "many" = some (.int many tm)) (mi : m "inputs" = some (.ref il)) (mr : m "rows" = some (.int (R : Int) tR))
      (ms : m "seen" = some (.ref sb)) (mo : m "some" = some (.ref so)) (N : News s₁.heap s₁.heap.objs.size h ((s₁.heap.objs.size + 1 + 1 + 1, ck) :: lst ⟨a, tb, sb, so, d, s₁.heap.objs.size + 1 + 1 + 1 + 1⟩ ot os oo od ok op on cr W))
      (J : Pre3 w ⟨a, tb, sb, so, d, s₁.heap.objs.size + 1 + 1 + 1 + 1⟩ s₁.heap.objs.size D cvs b W tl rl ⟨circI many.toNat, tsI R 0, [], 1 :: insI many.toNat, 1⟩ ot os oo od ok op on) (hil : (il, LCg.lst ivs) ∈ W) : P6 { s₁ with heap := h, toks := tk }
variable (tb sb so : Addr) (os oo : Obj)
inductive P7 : Shared → Prop
  | mk (h : Heap) (tk : Nat) (m : Str → Option Value) (ot : Obj) (W tl rl : List (Addr × Obj)) (F : Fr s₁.heap s₁.heap.objs.size h m) (mf : m "feed" = some (.ref d)) (mi : m "inputs" = some (.ref il)) (mr : m "rows" = some (.int (R : Int) tR))
      (ms : m "seen" = some (.ref sb)) (mo : m "some" = some (.ref so)) (N : News s₁.heap s₁.heap.objs.size h (lst ⟨a, tb, sb, so, d, s₁.heap.objs.size + 1 + 1 + 1 + 1⟩ ot os oo od ok op on cr W))
      (J : Lap w ⟨a, tb, sb, so, d, s₁.heap.objs.size + 1 + 1 + 1 + 1⟩ s₁.heap.objs.size D cvs b W tl rl ⟨circI many.toNat, tsI R many.toNat, [], 1 :: insI many.toNat, 1⟩ ot os oo od ok op on) (hil : (il, LCg.lst ivs) ∈ W) : P7 { s₁ with heap := h, toks := tk }
inductive JS7 (i : Nat) (m : Str → Option Value) : List (Addr × Obj) → Prop
  | mk (ck' : Obj) (v : Option Value) (ot : Obj) (W tl rl : List (Addr × Obj)) (e1 : ck'.data = .cell v) (J : Pre3 w ⟨a, tb, sb, so, d, s₁.heap.objs.size + 1 + 1 + 1 + 1⟩ s₁.heap.objs.size D cvs b W tl rl ⟨circI many.toNat, tsI R i, [], 1 :: insI many.toNat, 1⟩ ot os oo od ok op on)
      (hil : (il, LCg.lst ivs) ∈ W) (mf : m "feed" = some (.ref d)) (mi : m "inputs" = some (.ref il)) (mr : m "rows" = some (.int (R : Int) tR)) (ms : m "seen" = some (.ref sb)) (mo : m "some" = some (.ref so)) :
      JS7 i m ((s₁.heap.objs.size + 1 + 1 + 1, ck') :: lst ⟨a, tb, sb, so, d, s₁.heap.objs.size + 1 + 1 + 1 + 1⟩ ot os oo od ok op on cr W)
end
section
variable (w : World) (s₁ : Shared) (D : Addr) (cvs : List Value) (b : Int) (d : Addr) (a : NA) (tb sb so : Addr) (n : Nat) (R : Nat) (tR : Tok) (il : Addr) (ivs : List Value)
inductive P8 : Shared → Prop
  | mk (h : Heap) (tk : Nat) (m : Str → Option Value) (st : LS) (W tl rl : List (Addr × Obj)) (ot os oo od ok op on cr : Obj) (F : Fr s₁.heap s₁.heap.objs.size h m) (mi : m "inputs" = some (.ref il))
      (N : News s₁.heap s₁.heap.objs.size h (lst ⟨a, tb, sb, so, d, s₁.heap.objs.size + 1 + 1 + 1 + 1⟩ ot os oo od ok op on cr W)) (J : Lap w ⟨a, tb, sb, so, d, s₁.heap.objs.size + 1 + 1 + 1 + 1⟩ s₁.heap.objs.size D cvs b W tl rl st ot os oo od ok op on) (I : Inv n R 7 st) (hil : (il, LCg.lst ivs) ∈ W) : P8 { s₁ with heap := h, toks := tk }
inductive JS8 (lap : Nat) (m : Str → Option Value) : List (Addr × Obj) → Prop
  | mk (st : LS) (W tl rl : List (Addr × Obj)) (ot os oo od ok op on cr : Obj) (v : Option Value) (hcr : cr.data = .cell v) (J : Lap w ⟨a, tb, sb, so, d, s₁.heap.objs.size + 1 + 1 + 1 + 1⟩ s₁.heap.objs.size D cvs b W tl rl st ot os oo od ok op on) (I : Inv n R lap st) (hil : (il, LCg.lst ivs) ∈ W)
      (mf : m "feed" = some (.ref d)) (mi : m "inputs" = some (.ref il)) (mr : m "rows" = some (.int (R : Int) tR)) (ms : m "seen" = some (.ref sb)) (mo : m "some" = some (.ref so)) : JS8 lap m (lst ⟨a, tb, sb, so, d, s₁.heap.objs.size + 1 + 1 + 1 + 1⟩ ot os oo od ok op on cr W)
variable (sx : Shared) (kind : Int) (t2 : Tok) (cr : Obj) (X tl rl : List (Addr × Obj)) (st : LS) (ot os oo ok op on : Obj)
inductive PVn : Value → Shared → Prop
  | mk (mn : Nat) (t : Tok) (h : Heap) (tk : Nat) (od : Obj) (k' : Int) (m : Str → Option Value) (F : Fr s₁.heap s₁.heap.objs.size h m) (mf : m "feed" = some (.ref d)) (mi : m "inputs" = some (.ref il)) (mr : m "rows" = some (.int (R : Int) tR)) (ms : m "seen" = some (.ref sb)) (mo : m "some" = some (.ref so)) (mk : m "kind" = some (.int kind t2))
      (N : News s₁.heap s₁.heap.objs.size h (lst ⟨a, tb, sb, so, d, s₁.heap.objs.size + 1 + 1 + 1 + 1⟩ ot os oo od ok op on cr X)) (J : Lap w ⟨a, tb, sb, so, d, s₁.heap.objs.size + 1 + 1 + 1 + 1⟩ s₁.heap.objs.size D cvs b X tl rl ⟨st.c, st.ts, st.sn, st.ss, k'⟩ ot os oo od ok op on)
      (h3 : mn ≤ 3) (hA : 2 ≤ kind → 2 ≤ mn) (hB : kind = 7 → 3 ≤ mn) (hC : 2 ≤ kind → kind ≠ 7 → mn = 2) (ka : st.k + 1 ≤ k') (kb : k' ≤ st.k + 2) : PVn (.int (mn : Int) t) { sx with heap := h, toks := tk }
variable (od : Obj) (X9 : List (Addr × Obj)) (fl : Addr) (gg : Int) (t7 : Tok)
inductive JR (m : Str → Option Value) : List (Addr × Obj) → Prop
  | mk (cr : Obj) (v : Option Value) (hcr : cr.data = .cell v) (mf : m "feed" = some (.ref d)) (mi : m "inputs" = some (.ref il)) (mr : m "rows" = some (.int (R : Int) tR)) (ms : m "seen" = some (.ref sb)) (mo : m "some" = some (.ref so)) (mk : m "kind" = some (.int kind t2)) (ma : m "args" = some (.ref fl)) (mg : m "g" = some (.int gg t7)) :
      JR m (lst ⟨a, tb, sb, so, d, s₁.heap.objs.size + 1 + 1 + 1 + 1⟩ ot os oo od ok op on cr X9)
end
end Mine
end
-- text L1
section
open PySem PySem.W PySem.Calls PyProof.Rows
set_option Elab.async false
set_option maxRecDepth 100000
set_option maxHeartbeats 8000000
set_option linter.unusedVariables false
namespace Mine
local macro_rules | `(tactic| walk_at "p0") => `(tactic| skip)
local macro_rules | `(tactic| walk_at "p1") => `(tactic| skip)
set_option rowWalk.seconds 0
theorem L1_fill (w : World) : (hd.heap_39 w.params = hd.heap_39 w.params ∧ PySem.Challenge.rw_nu0265_01 = PySem.Challenge.rw_nu0265_01) := by
  k_fill
  exact ⟨rfl, rfl⟩
local macro_rules | `(tactic| walk_at "eval ListComp") => `(tactic| refine Stop.to 1 ?_)
local macro_rules | `(tactic| walk_at "pyIter ref") => `(tactic| refine Stop.mk ?_)
local macro_rules | `(tactic| walk_at "exec Assign cons ListComp") => `(tactic| refine Stop.to 2 ?_)
local macro_rules | `(tactic| k_mem) => `(tactic| assumption)
local macro_rules | `(tactic| k_in) => `(tactic| exact Frag.In.keeps (by with_reducible assumption) (Fr.keep (by k_asm)))
local macro_rules | `(tactic| k_updF) => `(tactic| ((rename TailNe _ _ => hTN); first
  | (refine' UpdF.head ?y8h; (case y8h => ((repeat (refine' all_cons ?_ ?_; ((try dsimp only); omega))); first | exact all_nil | exact all_tail (by assumption))))
  | (refine' UpdF.tail ?y8a ?y8r; (case y8a => ((try dsimp only); omega)); (case y8r => k_updF))))
local macro_rules | `(tactic| k_updF) => `(tactic| first | exact upd_k (by assumption) | exact upd_tb (by assumption) (by assumption) | exact upd_row (by assumption) (by assumption) | exact upd_some (by assumption) (by assumption))
local macro_rules | `(tactic| walk_at "call builtin:list.append") => `(tactic| refine Stop.to 3 ?_)
local macro_rules | `(tactic| walk_at "exec For Name Call cons nil") => `(tactic| refine Stop.to 4 ?_)
local macro_rules | `(tactic| walk_at "call ref") => `(tactic| ((fail_if_success (with_reducible show wpAny _ _ (call (Value.ref 120) _) _ _ _)); refine Mine.Stop.mk ?_))
local macro_rules | `(tactic| walk_at "eval IfExp") => `(tactic| refine Stop.mk ?_)
local macro_rules | `(tactic| walk_at "compareOp NotIn int ref") => `(tactic| refine Stop.mk ?_)
local macro_rules | `(tactic| walk_at "getMethod ref") => `(tactic| ((fail_if_success (with_reducible show wpAny _ _ (getMethod (Value.ref _) (Str.ofString "append") _) _ _ _)); refine Stop.to 5 ?_))
local macro_rules | `(tactic| walk_at "binaryOp Mult ref int") => `(tactic| refine Stop.mk ?_)
local macro_rules | `(tactic| walk_at "binaryOp Add ref ref") => `(tactic| refine Stop.mk ?_)
local macro_rules | `(tactic| walk_at "compareOp NotEq ref ref") => `(tactic| refine Stop.mk ?_)
theorem law_holds : PySem.Challenge.rw_nu0265_01.Holds := Mine.hd (by
  -- k_go0's steps, without the look at the table of globals (nothing behind it asks for it)
  k_fill
  intro w s₀ s₁ mg mb G Y fa o pm cd doc dV kV ho hd hcd hD hmg hg args vals as hpre hlay hrd hwl hlo
  have KX := kIn_of Y
  have X := (Ground.X G).1
  refine Ground.open G ?_
  intro T B D TE TW
  (try (refine guard_noD D (by decide +kernel) ?_; clear D))
  obtain ⟨_, _, M⟩ := bmod_of_top T
  have TA := at_of_top T
  (try (obtain ⟨_, _, he, B0⟩ := based_of_top T rfl hmg ho hd; have he' : cd = _ := he; subst he'; clear he))
  clear hmg
  wrow_args hpre hlay hrd hwl hlo
  refine enter_call ?_
  w_top on
  (try refine codeAny_mono ?_ (fun _ _ g => GoodW.toG g))
  have K0 := below_caller (Top.heap T)
  w_call any ho hd hcd hD T F
  clear hd TA
  k_drop
  all_goals try k_fold
  rename IntsAre _ _ => hI
  rename Heap.IsList _ _ _ => hL
  rename World => w
  rename Shared => s₁
  rename List Int => ns
  rename ¬ _ < _ => hcl
  rename_i cr ck ct cn rd kd td nd N0 X0
  rename Fr _ _ _ _ => F0
  rename Top _ _ _ _ _ _ => T
  rename Below _ _ _ _ => B
  rename Frag.In _ _ => KX
  replace rd : cr.data = .cell none := rd
  replace kd : ck.data = .cell none := kd
  replace td : ct.data = .cell none := td
  replace nd : cn.data = .cell none := nd
  clear X0
  have hn : ns.length ≤ 63 := by omega
  refine seq_step (P1 w s₁ cr ck ct cn) ?_ ?_
  --{S1
  · refine opq fun PP hPP => ?_
    (k_steps; (repeat' ((first | (refine Stop.out (n := 1) ?_; (first | ((k_dflt (refine' comp_open ?y9c ?y9k ?y9n ?_ ?y9s; (case y9c => with_unfolding_all rfl); (case y9k => exact rfl); (case y9n => decide); (case y9s => (intro _; rfl))))))) | (refine Stop.out (n := 2) ?_; (first | ((k_dflt (refine' comp_openA ?y9w ?y9c ?y9k ?y9n ?_ ?y9s; (case y9w => with_unfolding_all rfl); (case y9c => with_unfolding_all rfl); (case y9k => exact rfl); (case y9n => decide); (case y9s => (intro _; rfl))))))) | (refine Stop.out (n := 3) ?_; (first | ((k_dflt (refine' append_n ?y9F ?y9N ?y9U ?y9z ?_; (case y9F => k_asm); (case y9N => k_asm); (case y9U => k_updF); (case y9z => omega)); intro h9q F9q N9q; (try dsimp only at N9q))))) | (refine Stop.out (n := 4) ?_; (first | (((rename Fr _ _ _ _ => lF'q); (with_unfolding_all refine' For_invTF lF'q ?_ ?ks; (case ks => (intro _; rfl))))))) | (refine Stop.out (n := 5) ?_; (first | ((k_dflt (refine' method_inst ?k1 ?k2 ?k3 ?k4 ?k5 ?k6 ?k7 ?_; (case k1 => k_asm); (case k2 => k_asm); (case k3 => k_inst); (case k4 => k_is); (case k5 => k_is); (case k6 => k_is); (case k7 => k_get)); k_whole))))); k_steps)))
    refine Stop.out ?_
    rename IntsAre _ (List.take 48 _) => hI1
    rename News _ _ _ _ => N1
    rename Fr _ _ _ _ => F1
    rename_i dF hF oF loF hdF lF DC vC hC hIC hCC hLC lC DX vX hX hCX hLX lX
    refine comp_seq_U (fun i ys nx => nx = _ ∧ ∃ zs : List Int, IntsAre ys zs ∧ zs.length = i ∧ ∀ z ∈ zs, 0 ≤ z ∧ z ≤ 96) rfl (by decide) rfl rfl (.inr ⟨0, by k_mem⟩) (by have := hI1.length; rw [sizeLine_eq]; omega) F1 N1 ⟨rfl, [], .nil, rfl, fun _ h => nomatch h⟩ (fun _ _ _ h => .inr ⟨0, by rw [h.1]; k_mem⟩) ?_ ?_
    · rintro i v I oI C oC D m₂ h tk E' ys nx hi hv hoC hm2 F N off ne ⟨rfl, zs, hys, hzl, hzb⟩
      refine opq fun PC hPC => ?_
      obtain ⟨x, t, rfl, hx⟩ := hI1.at i v hv
      clear F1 N1
      (try dsimp only); (try k_fold)
      (k_steps; (repeat' ((first | (refine Stop.out (n := 1) ?_; (first | ((k_dflt (refine' comp_open ?y9c ?y9k ?y9n ?_ ?y9s; (case y9c => with_unfolding_all rfl); (case y9k => exact rfl); (case y9n => decide); (case y9s => (intro _; rfl))))))) | (refine Stop.out (n := 2) ?_; (first | ((k_dflt (refine' comp_openA ?y9w ?y9c ?y9k ?y9n ?_ ?y9s; (case y9w => with_unfolding_all rfl); (case y9c => with_unfolding_all rfl); (case y9k => exact rfl); (case y9n => decide); (case y9s => (intro _; rfl))))))) | (refine Stop.out (n := 3) ?_; (first | ((k_dflt (refine' append_n ?y9F ?y9N ?y9U ?y9z ?_; (case y9F => k_asm); (case y9N => k_asm); (case y9U => k_updF); (case y9z => omega)); intro h9q F9q N9q; (try dsimp only at N9q))))) | (refine Stop.out (n := 4) ?_; (first | (((rename Fr _ _ _ _ => lF'q); (with_unfolding_all refine' For_invTF lF'q ?_ ?ks; (case ks => (intro _; rfl))))))) | (refine Stop.out (n := 5) ?_; (first | ((k_dflt (refine' method_inst ?k1 ?k2 ?k3 ?k4 ?k5 ?k6 ?k7 ?_; (case k1 => k_asm); (case k2 => k_asm); (case k3 => k_inst); (case k4 => k_is); (case k5 => k_is); (case k6 => k_is); (case k7 => k_get)); k_whole))))); k_steps)))
      refine hPC _ _ (TEnd.intro (by assumption) (by assumption) off ⟨rfl, _, IntsAre.append hys (.cons _ _ .nil), by simp [hzl], bound_add hzb (Int.fmod_nonneg_of_pos _ (by decide)) (Int.le_of_lt_add_one (Int.fmod_lt_of_pos _ (by decide)))⟩)
    · rintro D h tk ys nx ⟨rfl, zs, hys, hzl, hzb⟩ F N o1
      clear F1 N1
      simp only [LCg.Off1] at o1
      (try dsimp only); (try k_fold)
      (k_steps; (repeat' ((first | (refine Stop.out (n := 1) ?_; (first | ((k_dflt (refine' comp_open ?y9c ?y9k ?y9n ?_ ?y9s; (case y9c => with_unfolding_all rfl); (case y9k => exact rfl); (case y9n => decide); (case y9s => (intro _; rfl))))))) | (refine Stop.out (n := 2) ?_; (first | ((k_dflt (refine' comp_openA ?y9w ?y9c ?y9k ?y9n ?_ ?y9s; (case y9w => with_unfolding_all rfl); (case y9c => with_unfolding_all rfl); (case y9k => exact rfl); (case y9n => decide); (case y9s => (intro _; rfl))))))) | (refine Stop.out (n := 3) ?_; (first | ((k_dflt (refine' append_n ?y9F ?y9N ?y9U ?y9z ?_; (case y9F => k_asm); (case y9N => k_asm); (case y9U => k_updF); (case y9z => omega)); intro h9q F9q N9q; (try dsimp only at N9q))))) | (refine Stop.out (n := 4) ?_; (first | (((rename Fr _ _ _ _ => lF'q); (with_unfolding_all refine' For_invTF lF'q ?_ ?ks; (case ks => (intro _; rfl))))))) | (refine Stop.out (n := 5) ?_; (first | ((k_dflt (refine' method_inst ?k1 ?k2 ?k3 ?k4 ?k5 ?k6 ?k7 ?_; (case k1 => k_asm); (case k2 => k_asm); (case k3 => k_inst); (case k4 => k_is); (case k5 => k_is); (case k6 => k_is); (case k7 => k_get)); k_whole))))); k_steps)))
      rename Fr _ _ _ _ => F9
      rename News _ _ _ _ => N9
      rename Obj.IsDictOf _ _ _ => hd9
      (try dsimp only)
      have hz1 := hI1.length
      have hz2 := sum_bound zs hzb
      refine hPP _ _ (Post.mk ⟨_, _, _, DC, dF, _, zs.sum, vC, List.take 48 ns, F9, rfl, news_sub N9 (by repeat (first | exact sub_nil | refine sub_cons (by k_mem) ?_)), feed_start hd9, hIC, by simp; omega, hz2.1, by simp at hz1; omega, by omega, by omega⟩)
  --}S1
  · rintro s₂ ⟨h, tk, m, D, d, o, b, cvs, cns, F1, mf, N1, hfd, hci, hcn, hb0, hb1, hl1, hl2⟩
    clear F0 N0
    have F1 := see F1 "feed" mf
    refine seq_step (P2 w s₁ cr ck ct D cvs b d) ?_ ?_
    --{S2
    · refine opq fun PP hPP => ?_
      (k_steps; (repeat' ((first | (refine Stop.out (n := 1) ?_; (first | ((k_dflt (refine' comp_open ?y9c ?y9k ?y9n ?_ ?y9s; (case y9c => with_unfolding_all rfl); (case y9k => exact rfl); (case y9n => decide); (case y9s => (intro _; rfl))))))) | (refine Stop.out (n := 2) ?_; (first | ((k_dflt (refine' comp_openA ?y9w ?y9c ?y9k ?y9n ?_ ?y9s; (case y9w => with_unfolding_all rfl); (case y9c => with_unfolding_all rfl); (case y9k => exact rfl); (case y9n => decide); (case y9s => (intro _; rfl))))))) | (refine Stop.out (n := 3) ?_; (first | ((k_dflt (refine' append_n ?y9F ?y9N ?y9U ?y9z ?_; (case y9F => k_asm); (case y9N => k_asm); (case y9U => k_updF); (case y9z => omega)); intro h9q F9q N9q; (try dsimp only at N9q))))) | (refine Stop.out (n := 4) ?_; (first | (((rename Fr _ _ _ _ => lF'q); (with_unfolding_all refine' For_invTF lF'q ?_ ?ks; (case ks => (intro _; rfl))))))) | (refine Stop.out (n := 5) ?_; (first | ((k_dflt (refine' method_inst ?k1 ?k2 ?k3 ?k4 ?k5 ?k6 ?k7 ?_; (case k1 => k_asm); (case k2 => k_asm); (case k3 => k_inst); (case k4 => k_is); (case k5 => k_is); (case k6 => k_is); (case k7 => k_get)); k_whole))))); k_steps)))
      refine Stop.out ?_
      have hl3 : @LT.lt Nat _ d D := hl2
      k_dflt (refine' draw_useN ?y9B ?y9F ?y9X ?y9T ?y9N ?y9f ?y9k ?y9U ?y9o ?y9c ?y9e hci hcn hb0 hb1 ?y91 ?y92 ?y93 ?y94 ?y9d ?y9u ?_; (case y9B => k_asm); (case y9F => k_asm); (case y9X => k_asm); (case y9T => k_asm); (case y9N => k_asm); (case y9f => exact rfl); (case y9k => exact rfl); (case y9U => k_updF); (case y9o => assumption); (case y9c => k_mem); (case y9e => omega); (case y91 => decide); (case y92 => decide); (case y93 => decide); (case y94 => decide); (case y9d => decide); (case y9u => decide))
      intro x9 t9 h9 o9 tk9 hx0 hx1 F9 N9 hf9
      (try dsimp only at N9)
      (try dsimp only); (try k_fold)
      (k_steps; (repeat' ((first | (refine Stop.out (n := 1) ?_; (first | ((k_dflt (refine' comp_open ?y9c ?y9k ?y9n ?_ ?y9s; (case y9c => with_unfolding_all rfl); (case y9k => exact rfl); (case y9n => decide); (case y9s => (intro _; rfl))))))) | (refine Stop.out (n := 2) ?_; (first | ((k_dflt (refine' comp_openA ?y9w ?y9c ?y9k ?y9n ?_ ?y9s; (case y9w => with_unfolding_all rfl); (case y9c => with_unfolding_all rfl); (case y9k => exact rfl); (case y9n => decide); (case y9s => (intro _; rfl))))))) | (refine Stop.out (n := 3) ?_; (first | ((k_dflt (refine' append_n ?y9F ?y9N ?y9U ?y9z ?_; (case y9F => k_asm); (case y9N => k_asm); (case y9U => k_updF); (case y9z => omega)); intro h9q F9q N9q; (try dsimp only at N9q))))) | (refine Stop.out (n := 4) ?_; (first | (((rename Fr _ _ _ _ => lF'q); (with_unfolding_all refine' For_invTF lF'q ?_ ?ks; (case ks => (intro _; rfl))))))) | (refine Stop.out (n := 5) ?_; (first | ((k_dflt (refine' method_inst ?k1 ?k2 ?k3 ?k4 ?k5 ?k6 ?k7 ?_; (case k1 => k_asm); (case k2 => k_asm); (case k3 => k_inst); (case k4 => k_is); (case k5 => k_is); (case k6 => k_is); (case k7 => k_get)); k_whole))))); k_steps)))
      rename _ = Data.cell (some (Value.ref _)) => hcell9
      rename Obj.IsDictOf (intKind _ _) _ _ => hk9
      rename News _ _ _ _ => N9
      rename Fr _ _ _ _ => F9
      (try dsimp only)
      obtain ⟨a9, od9, ok9, op9, on9, W9, tl9, N8, J8⟩ := s2_end N9 hf9 hk9 (by assumption) hcell9 ⟨by omega, by omega, by omega, by omega, by omega, by omega, by omega, by omega, by omega, by omega, by omega⟩
      exact hPP _ _ (Post.mk ⟨_, _, _, a9, od9, ok9, op9, on9, W9, tl9, _, _, F9, rfl, rfl, by omega, by omega, N8, J8⟩)
    --}S2
    · rintro s₂ ⟨h, tk, m, a, od, ok, op, on, W, tl, many, tm, F2, mf, mm, hm2, hm4, N2, J2⟩
      clear F1 N1 hfd
      have F2 := see (see F2 "feed" mf) "many" mm
      refine seq_step (P3 w s₁ cr ck ct D cvs b d a od many tm) ?_ ?_
      --{S3
      · refine opq fun PP hPP => ?_
        (k_steps; (repeat' ((first | (refine Stop.out (n := 1) ?_; (first | ((k_dflt (refine' comp_open ?y9c ?y9k ?y9n ?_ ?y9s; (case y9c => with_unfolding_all rfl); (case y9k => exact rfl); (case y9n => decide); (case y9s => (intro _; rfl))))))) | (refine Stop.out (n := 2) ?_; (first | ((k_dflt (refine' comp_openA ?y9w ?y9c ?y9k ?y9n ?_ ?y9s; (case y9w => with_unfolding_all rfl); (case y9c => with_unfolding_all rfl); (case y9k => exact rfl); (case y9n => decide); (case y9s => (intro _; rfl))))))) | (refine Stop.out (n := 3) ?_; (first | ((k_dflt (refine' append_n ?y9F ?y9N ?y9U ?y9z ?_; (case y9F => k_asm); (case y9N => k_asm); (case y9U => k_updF); (case y9z => omega)); intro h9q F9q N9q; (try dsimp only at N9q))))) | (refine Stop.out (n := 4) ?_; (first | (((rename Fr _ _ _ _ => lF'q); (with_unfolding_all refine' For_invTF lF'q ?_ ?ks; (case ks => (intro _; rfl))))))) | (refine Stop.out (n := 5) ?_; (first | ((k_dflt (refine' method_inst ?k1 ?k2 ?k3 ?k4 ?k5 ?k6 ?k7 ?_; (case k1 => k_asm); (case k2 => k_asm); (case k3 => k_inst); (case k4 => k_is); (case k5 => k_is); (case k6 => k_is); (case k7 => k_get)); k_whole))))); k_steps)))
        refine Stop.out ?_
        rename IsRange _ _ _ _ _ _ _ _ => R3
        rename Fr _ _ _ _ => F3
        rename News _ _ _ _ => N3
        refine comp_range_UA (n := many.toNat) (fun i ys nx => ∃ ok op on W tl, nx = lst2 a d s₁.heap.objs.size od ok op on cr ck ct W ∧ Pre2 w a d s₁.heap.objs.size D cvs b W tl (circI i) 1 od ok op on ∧ IntsAre ys (insI i)) rfl (by decide) rfl rfl rfl rfl rfl R3 (small_one (by omega) (by omega) (by omega) (by omega)) (by rw [rangeSize_nat]; omega) (by rw [sizeLine_eq]; omega) F3 N3 ⟨_, _, _, _, _, rfl, J2, .nil⟩ ?_ ?_
        · rintro i v I oI C oC K m₂ h tk E' ys nx hi hP hoC hm2 F9 N9 off ne ⟨ok', op', on', W', tl', rfl, J, hys⟩
          refine opq fun PC hPC => ?_
          clear F3 N3 R3
          obtain ⟨oN, hmN, hN⟩ := J.cell
          have hmI := J.nN.inst
          obtain ⟨x1, x2, x3, x4, x5, x6, x7, hmD⟩ := J.nN.dict
          (try dsimp only); (try k_fold)
          (k_steps; (repeat' ((first | (refine Stop.out (n := 1) ?_; (first | ((k_dflt (refine' comp_open ?y9c ?y9k ?y9n ?_ ?y9s; (case y9c => with_unfolding_all rfl); (case y9k => exact rfl); (case y9n => decide); (case y9s => (intro _; rfl))))))) | (refine Stop.out (n := 2) ?_; (first | ((k_dflt (refine' comp_openA ?y9w ?y9c ?y9k ?y9n ?_ ?y9s; (case y9w => with_unfolding_all rfl); (case y9c => with_unfolding_all rfl); (case y9k => exact rfl); (case y9n => decide); (case y9s => (intro _; rfl))))))) | (refine Stop.out (n := 3) ?_; (first | ((k_dflt (refine' append_n ?y9F ?y9N ?y9U ?y9z ?_; (case y9F => k_asm); (case y9N => k_asm); (case y9U => k_updF); (case y9z => omega)); intro h9q F9q N9q; (try dsimp only at N9q))))) | (refine Stop.out (n := 4) ?_; (first | (((rename Fr _ _ _ _ => lF'q); (with_unfolding_all refine' For_invTF lF'q ?_ ?ks; (case ks => (intro _; rfl))))))) | (refine Stop.out (n := 5) ?_; (first | ((k_dflt (refine' method_inst ?k1 ?k2 ?k3 ?k4 ?k5 ?k6 ?k7 ?_; (case k1 => k_asm); (case k2 => k_asm); (case k3 => k_inst); (case k4 => k_is); (case k5 => k_is); (case k6 => k_is); (case k7 => k_get)); k_whole))))); k_steps)))
          refine Stop.out ?_
          (try dsimp only)
          have hsm : Small (circI i) 20 := circI_small i (by omega)
          k_dflt (refine' pre_input (p1 := (I, oI)) (p2 := (C, oC)) (p3 := (K, LCg.lst ys)) ?y9B ?y9F ?y9X ?y9T ?y9N ?y9f ?y9k ?y9d ?y9u J hsm (by decide) off ?_; (case y9B => k_asm); (case y9F => k_asm); (case y9X => k_asm); (case y9T => k_asm); (case y9N => exact N9); (case y9f => exact rfl); (case y9k => exact rfl); (case y9d => decide); (case y9u => decide))
          intro t7 h7 tk7 ok7 op7 on7 add7 F7 N7 J7 off7
          (k_steps; (repeat' ((first | (refine Stop.out (n := 1) ?_; (first | ((k_dflt (refine' comp_open ?y9c ?y9k ?y9n ?_ ?y9s; (case y9c => with_unfolding_all rfl); (case y9k => exact rfl); (case y9n => decide); (case y9s => (intro _; rfl))))))) | (refine Stop.out (n := 2) ?_; (first | ((k_dflt (refine' comp_openA ?y9w ?y9c ?y9k ?y9n ?_ ?y9s; (case y9w => with_unfolding_all rfl); (case y9c => with_unfolding_all rfl); (case y9k => exact rfl); (case y9n => decide); (case y9s => (intro _; rfl))))))) | (refine Stop.out (n := 3) ?_; (first | ((k_dflt (refine' append_n ?y9F ?y9N ?y9U ?y9z ?_; (case y9F => k_asm); (case y9N => k_asm); (case y9U => k_updF); (case y9z => omega)); intro h9q F9q N9q; (try dsimp only at N9q))))) | (refine Stop.out (n := 4) ?_; (first | (((rename Fr _ _ _ _ => lF'q); (with_unfolding_all refine' For_invTF lF'q ?_ ?ks; (case ks => (intro _; rfl))))))) | (refine Stop.out (n := 5) ?_; (first | ((k_dflt (refine' method_inst ?k1 ?k2 ?k3 ?k4 ?k5 ?k6 ?k7 ?_; (case k1 => k_asm); (case k2 => k_asm); (case k3 => k_inst); (case k4 => k_is); (case k5 => k_is); (case k6 => k_is); (case k7 => k_get)); k_whole))))); k_steps)))
          exact hPC _ _ (TEnd.intro F7 N7 off7 ⟨ok7, op7, on7, _, _, rfl, J7, by rw [insI_succ]; exact hys.append (.cons _ _ .nil)⟩)
        · rintro K h tk ys nx ⟨ok', op', on', W', tl', rfl, J, hys⟩ F9 N9 o1
          have hoff := off_cons (p := (K, LCg.lst ys)) (off1_all o1) J.off
          exact hPP _ _ (Post.mk ⟨_, _, _, _, _, _, _, _, K, ys, F9, by rw [if_neg (by decide)]; rfl, by rw [if_neg (by decide)]; rfl, if_pos rfl, news_swap2 N9, J.more (fun p hp => .tail _ hp) hoff, .head _, hys⟩)
      --}S3
      · rintro s₂ ⟨h, tk, m, ok, op, on, W, tl, il, ivs, F3, mf, mm, mi, N3, J3, hil, hivs⟩
        clear F2 N2 J2
        have F3 := see (see (see F3 "feed" mf) "many" mm) "inputs" mi
        have hmk : (circI many.toNat).kinds.length = many.toNat + 2 := circI_kinds _
        have hmp : (circI many.toNat).parts.length = many.toNat + 2 := circI_parts _
        refine seq_step (P4 s₁ cr ck ct d a od many tm ok op on W il) ?_ ?_
        --{S4
        · refine opq fun PP hPP => ?_
          obtain ⟨oN, hmN, hN⟩ := J3.cell
          have hmI := J3.nN.inst
          obtain ⟨x1, x2, x3, x4, x5, x6, x7, hmD⟩ := J3.nN.dict
          (k_steps; (repeat' ((first | (refine Stop.out (n := 1) ?_; (first | ((k_dflt (refine' comp_open ?y9c ?y9k ?y9n ?_ ?y9s; (case y9c => with_unfolding_all rfl); (case y9k => exact rfl); (case y9n => decide); (case y9s => (intro _; rfl))))))) | (refine Stop.out (n := 2) ?_; (first | ((k_dflt (refine' comp_openA ?y9w ?y9c ?y9k ?y9n ?_ ?y9s; (case y9w => with_unfolding_all rfl); (case y9c => with_unfolding_all rfl); (case y9k => exact rfl); (case y9n => decide); (case y9s => (intro _; rfl))))))) | (refine Stop.out (n := 3) ?_; (first | ((k_dflt (refine' append_n ?y9F ?y9N ?y9U ?y9z ?_; (case y9F => k_asm); (case y9N => k_asm); (case y9U => k_updF); (case y9z => omega)); intro h9q F9q N9q; (try dsimp only at N9q))))) | (refine Stop.out (n := 4) ?_; (first | (((rename Fr _ _ _ _ => lF'q); (with_unfolding_all refine' For_invTF lF'q ?_ ?ks; (case ks => (intro _; rfl))))))) | (refine Stop.out (n := 5) ?_; (first | ((k_dflt (refine' method_inst ?k1 ?k2 ?k3 ?k4 ?k5 ?k6 ?k7 ?_; (case k1 => k_asm); (case k2 => k_asm); (case k3 => k_inst); (case k4 => k_is); (case k5 => k_is); (case k6 => k_is); (case k7 => k_get)); k_whole))))); k_steps)))
          refine Stop.out ?_
          rename IntsAre _ (rangeKs _ _) => hr9
          rename IntsAre ivs _ => hivs
          have hre : insI many.toNat = rangeKs 2 (many + 2 - 2).toNat := by
            rw [show many + 2 - 2 = many by omega]; rfl
          refine ke_ne_ints ⟨_, News.get (by assumption) (.tail _ (lst2_W hil)), rfl, _, rfl⟩ ⟨_, News.get (by assumption) (.head _), rfl, _, rfl⟩ hivs hr9 (by dsimp only [Around.deeper, callerA]; decide) ?_
          rw [hre, decide_eq_true rfl]
          (k_steps; (repeat' ((first | (refine Stop.out (n := 1) ?_; (first | ((k_dflt (refine' comp_open ?y9c ?y9k ?y9n ?_ ?y9s; (case y9c => with_unfolding_all rfl); (case y9k => exact rfl); (case y9n => decide); (case y9s => (intro _; rfl))))))) | (refine Stop.out (n := 2) ?_; (first | ((k_dflt (refine' comp_openA ?y9w ?y9c ?y9k ?y9n ?_ ?y9s; (case y9w => with_unfolding_all rfl); (case y9c => with_unfolding_all rfl); (case y9k => exact rfl); (case y9n => decide); (case y9s => (intro _; rfl))))))) | (refine Stop.out (n := 3) ?_; (first | ((k_dflt (refine' append_n ?y9F ?y9N ?y9U ?y9z ?_; (case y9F => k_asm); (case y9N => k_asm); (case y9U => k_updF); (case y9z => omega)); intro h9q F9q N9q; (try dsimp only at N9q))))) | (refine Stop.out (n := 4) ?_; (first | (((rename Fr _ _ _ _ => lF'q); (with_unfolding_all refine' For_invTF lF'q ?_ ?ks; (case ks => (intro _; rfl))))))) | (refine Stop.out (n := 5) ?_; (first | ((k_dflt (refine' method_inst ?k1 ?k2 ?k3 ?k4 ?k5 ?k6 ?k7 ?_; (case k1 => k_asm); (case k2 => k_asm); (case k3 => k_inst); (case k4 => k_is); (case k5 => k_is); (case k6 => k_is); (case k7 => k_get)); k_whole))))); k_steps)))
          refine Stop.out ?_
          (try dsimp only)
          k_dflt (refine' size_use ?y9B ?y9F ?y9X ?y9T ?y9N ?y9f ?y9k ?y9d ?y9u ?y9r ?y9c ?_; (case y9B => k_asm); (case y9F => k_asm); (case y9X => k_asm); (case y9T => k_asm); (case y9N => k_asm); (case y9f => exact rfl); (case y9k => exact rfl); (case y9d => decide); (case y9u => decide); (case y9r => exact J3.readN (by assumption) (by intro p hp; repeat (first | exact hp | apply List.Mem.tail))); (case y9c => omega))
          intro t5 h5 tk5 F5 N5
          rw [hmk, show (((many.toNat + 2 : Nat) : Int) - 1) = many + 1 by omega]
          (k_steps; (repeat' ((first | (refine Stop.out (n := 1) ?_; (first | ((k_dflt (refine' comp_open ?y9c ?y9k ?y9n ?_ ?y9s; (case y9c => with_unfolding_all rfl); (case y9k => exact rfl); (case y9n => decide); (case y9s => (intro _; rfl))))))) | (refine Stop.out (n := 2) ?_; (first | ((k_dflt (refine' comp_openA ?y9w ?y9c ?y9k ?y9n ?_ ?y9s; (case y9w => with_unfolding_all rfl); (case y9c => with_unfolding_all rfl); (case y9k => exact rfl); (case y9n => decide); (case y9s => (intro _; rfl))))))) | (refine Stop.out (n := 3) ?_; (first | ((k_dflt (refine' append_n ?y9F ?y9N ?y9U ?y9z ?_; (case y9F => k_asm); (case y9N => k_asm); (case y9U => k_updF); (case y9z => omega)); intro h9q F9q N9q; (try dsimp only at N9q))))) | (refine Stop.out (n := 4) ?_; (first | (((rename Fr _ _ _ _ => lF'q); (with_unfolding_all refine' For_invTF lF'q ?_ ?ks; (case ks => (intro _; rfl))))))) | (refine Stop.out (n := 5) ?_; (first | ((k_dflt (refine' method_inst ?k1 ?k2 ?k3 ?k4 ?k5 ?k6 ?k7 ?_; (case k1 => k_asm); (case k2 => k_asm); (case k3 => k_inst); (case k4 => k_is); (case k5 => k_is); (case k6 => k_is); (case k7 => k_get)); k_whole))))); k_steps)))
          all_goals try (rename_i ha; exact absurd rfl ha)
          refine Stop.out ?_
          (try dsimp only)
          k_dflt (refine' kind_use ?y9B ?y9F ?y9X ?y9T ?y9N ?y9f ?y9k ?y9d ?y9u ?y9r ?y9c ?y91 ?y92 ?y9l ?_; (case y9B => k_asm); (case y9F => k_asm); (case y9X => k_asm); (case y9T => k_asm); (case y9N => k_asm); (case y9f => exact rfl); (case y9k => exact rfl); (case y9d => decide); (case y9u => decide); (case y9r => exact J3.readN (by assumption) (by intro p hp; repeat (first | exact hp | apply List.Mem.tail))); (case y9c => omega); (case y91 => decide); (case y92 => decide); (case y9l => (rw [hmk]; show 1 < _; omega)))
          intro x6 t6 h6 tk6 F6 N6 hx6
          have hx6' : x6 = Str.ofString "true" := (Option.some.inj ((circI_kind1 _).symm.trans hx6)).symm
          subst hx6'
          (k_steps; (repeat' ((first | (refine Stop.out (n := 1) ?_; (first | ((k_dflt (refine' comp_open ?y9c ?y9k ?y9n ?_ ?y9s; (case y9c => with_unfolding_all rfl); (case y9k => exact rfl); (case y9n => decide); (case y9s => (intro _; rfl))))))) | (refine Stop.out (n := 2) ?_; (first | ((k_dflt (refine' comp_openA ?y9w ?y9c ?y9k ?y9n ?_ ?y9s; (case y9w => with_unfolding_all rfl); (case y9c => with_unfolding_all rfl); (case y9k => exact rfl); (case y9n => decide); (case y9s => (intro _; rfl))))))) | (refine Stop.out (n := 3) ?_; (first | ((k_dflt (refine' append_n ?y9F ?y9N ?y9U ?y9z ?_; (case y9F => k_asm); (case y9N => k_asm); (case y9U => k_updF); (case y9z => omega)); intro h9q F9q N9q; (try dsimp only at N9q))))) | (refine Stop.out (n := 4) ?_; (first | (((rename Fr _ _ _ _ => lF'q); (with_unfolding_all refine' For_invTF lF'q ?_ ?ks; (case ks => (intro _; rfl))))))) | (refine Stop.out (n := 5) ?_; (first | ((k_dflt (refine' method_inst ?k1 ?k2 ?k3 ?k4 ?k5 ?k6 ?k7 ?_; (case k1 => k_asm); (case k2 => k_asm); (case k3 => k_inst); (case k4 => k_is); (case k5 => k_is); (case k6 => k_is); (case k7 => k_get)); k_whole))))); k_steps)))
          refine Stop.out ?_
          (try dsimp only)
          k_dflt (refine' parts_use ?y9B ?y9F ?y9X ?y9T ?y9N ?y9f ?y9k ?y9d ?y9u ?y9r ?y9c ?y91 ?y92 ?y9l ?_; (case y9B => k_asm); (case y9F => k_asm); (case y9X => k_asm); (case y9T => k_asm); (case y9N => k_asm); (case y9f => exact rfl); (case y9k => exact rfl); (case y9d => decide); (case y9u => decide); (case y9r => exact J3.readN (by assumption) (by intro p hp; repeat (first | exact hp | apply List.Mem.tail))); (case y9c => omega); (case y91 => decide); (case y92 => decide); (case y9l => (rw [hmp]; show 1 < _; omega)))
          intro t7 o7 p7 h7 tk7 F7 N7 hm7 ho7 hx7
          have hx7' : p7 = [] := (Option.some.inj ((circI_part1 _).symm.trans hx7)).symm
          subst hx7'
          (k_steps; (repeat' ((first | (refine Stop.out (n := 1) ?_; (first | ((k_dflt (refine' comp_open ?y9c ?y9k ?y9n ?_ ?y9s; (case y9c => with_unfolding_all rfl); (case y9k => exact rfl); (case y9n => decide); (case y9s => (intro _; rfl))))))) | (refine Stop.out (n := 2) ?_; (first | ((k_dflt (refine' comp_openA ?y9w ?y9c ?y9k ?y9n ?_ ?y9s; (case y9w => with_unfolding_all rfl); (case y9c => with_unfolding_all rfl); (case y9k => exact rfl); (case y9n => decide); (case y9s => (intro _; rfl))))))) | (refine Stop.out (n := 3) ?_; (first | ((k_dflt (refine' append_n ?y9F ?y9N ?y9U ?y9z ?_; (case y9F => k_asm); (case y9N => k_asm); (case y9U => k_updF); (case y9z => omega)); intro h9q F9q N9q; (try dsimp only at N9q))))) | (refine Stop.out (n := 4) ?_; (first | (((rename Fr _ _ _ _ => lF'q); (with_unfolding_all refine' For_invTF lF'q ?_ ?ks; (case ks => (intro _; rfl))))))) | (refine Stop.out (n := 5) ?_; (first | ((k_dflt (refine' method_inst ?k1 ?k2 ?k3 ?k4 ?k5 ?k6 ?k7 ?_; (case k1 => k_asm); (case k2 => k_asm); (case k3 => k_inst); (case k4 => k_is); (case k5 => k_is); (case k6 => k_is); (case k7 => k_get)); k_whole))))); k_steps)))
          refine Stop.out ?_
          rename News _ _ _ _ => N9
          refine ne_tups (p := []) (q := []) ⟨o7, N9.get (.tail _ (.tail _ (lst2_W (J3.tlW _ hm7)))), ho7⟩ ⟨_, N9.get (.head _), ⟨[], 0, rfl, .nil⟩⟩ (by dsimp only [Around.deeper, callerA]; decide) ?_
          rw [decide_eq_true rfl]
          (k_steps; (repeat' ((first | (refine Stop.out (n := 1) ?_; (first | ((k_dflt (refine' comp_open ?y9c ?y9k ?y9n ?_ ?y9s; (case y9c => with_unfolding_all rfl); (case y9k => exact rfl); (case y9n => decide); (case y9s => (intro _; rfl))))))) | (refine Stop.out (n := 2) ?_; (first | ((k_dflt (refine' comp_openA ?y9w ?y9c ?y9k ?y9n ?_ ?y9s; (case y9w => with_unfolding_all rfl); (case y9c => with_unfolding_all rfl); (case y9k => exact rfl); (case y9n => decide); (case y9s => (intro _; rfl))))))) | (refine Stop.out (n := 3) ?_; (first | ((k_dflt (refine' append_n ?y9F ?y9N ?y9U ?y9z ?_; (case y9F => k_asm); (case y9N => k_asm); (case y9U => k_updF); (case y9z => omega)); intro h9q F9q N9q; (try dsimp only at N9q))))) | (refine Stop.out (n := 4) ?_; (first | (((rename Fr _ _ _ _ => lF'q); (with_unfolding_all refine' For_invTF lF'q ?_ ?ks; (case ks => (intro _; rfl))))))) | (refine Stop.out (n := 5) ?_; (first | ((k_dflt (refine' method_inst ?k1 ?k2 ?k3 ?k4 ?k5 ?k6 ?k7 ?_; (case k1 => k_asm); (case k2 => k_asm); (case k3 => k_inst); (case k4 => k_is); (case k5 => k_is); (case k6 => k_is); (case k7 => k_get)); k_whole))))); k_steps)))
          rename Fr _ _ _ _ => F9
          exact hPP _ _ (Post.mk ⟨_, _, _, F9, rfl, rfl, rfl, news_sub N9 fun p hp => .tail _ (.tail _ hp)⟩)
        --}S4
        · rintro s₂ ⟨h, tk, m, F4, mf, mm, mi, N4⟩
          clear F3 N3
          have F4 := see (see (see F4 "feed" mf) "many" mm) "inputs" mi
          obtain ⟨R, hR, hR2⟩ : ∃ R : Nat, (2 : Int) ^ many.toNat = (R : Int) ∧ ((many = 2 ∧ R = 4) ∨ (many = 3 ∧ R = 8)) := by
            have : many = 2 ∨ many = 3 := by omega
            rcases this with rfl | rfl
            · exact ⟨4, rfl, .inl ⟨rfl, rfl⟩⟩
            · exact ⟨8, rfl, .inr ⟨rfl, rfl⟩⟩
          refine seq_step (P5 s₁ cr ck ct d a od many tm ok op on W il R) ?_ ?_
          --{S5
          · refine opq fun PP hPP => ?_
            (k_steps; (repeat' ((first | (refine Stop.out (n := 1) ?_; (first | ((k_dflt (refine' comp_open ?y9c ?y9k ?y9n ?_ ?y9s; (case y9c => with_unfolding_all rfl); (case y9k => exact rfl); (case y9n => decide); (case y9s => (intro _; rfl))))))) | (refine Stop.out (n := 2) ?_; (first | ((k_dflt (refine' comp_openA ?y9w ?y9c ?y9k ?y9n ?_ ?y9s; (case y9w => with_unfolding_all rfl); (case y9c => with_unfolding_all rfl); (case y9k => exact rfl); (case y9n => decide); (case y9s => (intro _; rfl))))))) | (refine Stop.out (n := 3) ?_; (first | ((k_dflt (refine' append_n ?y9F ?y9N ?y9U ?y9z ?_; (case y9F => k_asm); (case y9N => k_asm); (case y9U => k_updF); (case y9z => omega)); intro h9q F9q N9q; (try dsimp only at N9q))))) | (refine Stop.out (n := 4) ?_; (first | (((rename Fr _ _ _ _ => lF'q); (with_unfolding_all refine' For_invTF lF'q ?_ ?ks; (case ks => (intro _; rfl))))))) | (refine Stop.out (n := 5) ?_; (first | ((k_dflt (refine' method_inst ?k1 ?k2 ?k3 ?k4 ?k5 ?k6 ?k7 ?_; (case k1 => k_asm); (case k2 => k_asm); (case k3 => k_inst); (case k4 => k_is); (case k5 => k_is); (case k6 => k_is); (case k7 => k_get)); k_whole))))); k_steps)))
            (try dsimp only)
            rename Fr _ _ _ _ => F5
            rw [hR] at F5
            exact hPP _ _ (Post.mk ⟨_, _, _, _, F5, rfl, rfl, rfl, rfl, by assumption⟩)
          --}S5
          · rintro s₂ ⟨h, tk, m, tR, F5, mf, mm, mi, mr, N5⟩
            clear F4 N4
            have nd3 := apart2 J3.nd
            have hWt : TailNe W (s₁.heap.objs.size + 1 + 1) := fun p hp => J3.off p hp _ (by simp [xs2])
            have F5 := see (see (see (see F5 "feed" mf) "many" mm) "inputs" mi) "rows" mr
            refine seq_step (P6 w s₁ cr ck D cvs b d a od many tm ok op on il ivs R tR) ?_ ?_
            --{S6
            · refine opq fun PP hPP => ?_
              (k_steps; (repeat' ((first | (refine Stop.out (n := 1) ?_; (first | ((k_dflt (refine' comp_open ?y9c ?y9k ?y9n ?_ ?y9s; (case y9c => with_unfolding_all rfl); (case y9k => exact rfl); (case y9n => decide); (case y9s => (intro _; rfl))))))) | (refine Stop.out (n := 2) ?_; (first | ((k_dflt (refine' comp_openA ?y9w ?y9c ?y9k ?y9n ?_ ?y9s; (case y9w => with_unfolding_all rfl); (case y9c => with_unfolding_all rfl); (case y9k => exact rfl); (case y9n => decide); (case y9s => (intro _; rfl))))))) | (refine Stop.out (n := 3) ?_; (first | ((k_dflt (refine' append_n ?y9F ?y9N ?y9U ?y9z ?_; (case y9F => k_asm); (case y9N => k_asm); (case y9U => k_updF); (case y9z => omega)); intro h9q F9q N9q; (try dsimp only at N9q))))) | (refine Stop.out (n := 4) ?_; (first | (((rename Fr _ _ _ _ => lF'q); (with_unfolding_all refine' For_invTF lF'q ?_ ?ks; (case ks => (intro _; rfl))))))) | (refine Stop.out (n := 5) ?_; (first | ((k_dflt (refine' method_inst ?k1 ?k2 ?k3 ?k4 ?k5 ?k6 ?k7 ?_; (case k1 => k_asm); (case k2 => k_asm); (case k3 => k_inst); (case k4 => k_is); (case k5 => k_is); (case k6 => k_is); (case k7 => k_get)); k_whole))))); k_steps)))
              refine Stop.out ?_
              rename News _ _ _ _ => N6
              rename Fr _ _ _ _ => F6
              rename_i r0 hr0 l10 l3 hl3 l11
              obtain ⟨y1, y2, y3, y4, y5, y6, y7, hA⟩ := id l10
              refine KMa.mul F6 N6 ⟨_, N6.get (.head _), rfl, _, rfl⟩ (by omega) (by omega) (by simp; omega) rfl ?_
              intro D8 h8 F8 N8 l8
              k_lt l8
              (try dsimp only); (try k_fold)
              (k_steps; (repeat' ((first | (refine Stop.out (n := 1) ?_; (first | ((k_dflt (refine' comp_open ?y9c ?y9k ?y9n ?_ ?y9s; (case y9c => with_unfolding_all rfl); (case y9k => exact rfl); (case y9n => decide); (case y9s => (intro _; rfl))))))) | (refine Stop.out (n := 2) ?_; (first | ((k_dflt (refine' comp_openA ?y9w ?y9c ?y9k ?y9n ?_ ?y9s; (case y9w => with_unfolding_all rfl); (case y9c => with_unfolding_all rfl); (case y9k => exact rfl); (case y9n => decide); (case y9s => (intro _; rfl))))))) | (refine Stop.out (n := 3) ?_; (first | ((k_dflt (refine' append_n ?y9F ?y9N ?y9U ?y9z ?_; (case y9F => k_asm); (case y9N => k_asm); (case y9U => k_updF); (case y9z => omega)); intro h9q F9q N9q; (try dsimp only at N9q))))) | (refine Stop.out (n := 4) ?_; (first | (((rename Fr _ _ _ _ => lF'q); (with_unfolding_all refine' For_invTF lF'q ?_ ?ks; (case ks => (intro _; rfl))))))) | (refine Stop.out (n := 5) ?_; (first | ((k_dflt (refine' method_inst ?k1 ?k2 ?k3 ?k4 ?k5 ?k6 ?k7 ?_; (case k1 => k_asm); (case k2 => k_asm); (case k3 => k_inst); (case k4 => k_is); (case k5 => k_is); (case k6 => k_is); (case k7 => k_get)); k_whole))))); k_steps)))
              refine Stop.out ?_
              rename News _ _ _ _ => N7
              rename Fr _ _ _ _ => F7
              refine kmk_add_ints F7 N7 ⟨_, N7.get (.head _), rfl, _, rfl⟩ ⟨_, N7.get (.tail _ (.tail _ (.tail _ (.tail _ (.tail _ (.tail _ (lst2_W hil))))))), rfl, _, rfl⟩ (.cons _ _ .nil) hivs ?_ ?z
              case z => (rw [sizeLine_eq]; simp [insI]; omega)
              intro Ds wss hh Fs Ns ls hIs
              k_lt ls
              (try dsimp only); (try k_fold)
              (k_steps; (repeat' ((first | (refine Stop.out (n := 1) ?_; (first | ((k_dflt (refine' comp_open ?y9c ?y9k ?y9n ?_ ?y9s; (case y9c => with_unfolding_all rfl); (case y9k => exact rfl); (case y9n => decide); (case y9s => (intro _; rfl))))))) | (refine Stop.out (n := 2) ?_; (first | ((k_dflt (refine' comp_openA ?y9w ?y9c ?y9k ?y9n ?_ ?y9s; (case y9w => with_unfolding_all rfl); (case y9c => with_unfolding_all rfl); (case y9k => exact rfl); (case y9n => decide); (case y9s => (intro _; rfl))))))) | (refine Stop.out (n := 3) ?_; (first | ((k_dflt (refine' append_n ?y9F ?y9N ?y9U ?y9z ?_; (case y9F => k_asm); (case y9N => k_asm); (case y9U => k_updF); (case y9z => omega)); intro h9q F9q N9q; (try dsimp only at N9q))))) | (refine Stop.out (n := 4) ?_; (first | (((rename Fr _ _ _ _ => lF'q); (with_unfolding_all refine' For_invTF lF'q ?_ ?ks; (case ks => (intro _; rfl))))))) | (refine Stop.out (n := 5) ?_; (first | ((k_dflt (refine' method_inst ?k1 ?k2 ?k3 ?k4 ?k5 ?k6 ?k7 ?_; (case k1 => k_asm); (case k2 => k_asm); (case k3 => k_inst); (case k4 => k_is); (case k5 => k_is); (case k6 => k_is); (case k7 => k_get)); k_whole))))); k_steps)))
              rename _ = Data.cell (some (Value.ref _)) => hct9
              rename News _ _ _ _ => N9
              rename Fr _ _ _ _ => F9
              (try dsimp only)
              obtain ⟨N8, J8⟩ := s6_end N9 J3 hIs hct9 ⟨by omega, by omega, by omega, by omega⟩ (by simp only [xs2, List.forall_mem_cons, List.not_mem_nil, false_implies, implies_true, and_true]; exact ⟨y1, y2, y3, y4, y5, y6, y7⟩) (allLt_mem hA) (by omega) hWt
              exact hPP _ _ (Post.mk ⟨_, _, _, _, _, _, _, _, _, _, _, _, F9, rfl, rfl, rfl, rfl, rfl, rfl, N8, J8, .tail _ (.tail _ (.tail _ hil))⟩)
            --}S6
            · rintro s₂ ⟨h, tk, m, tb, sb, so, ot, os, oo, W', tl', rl, F6, mf, mm, mi, mr, ms, mo, N6, J6, hil6⟩
              clear F5 N5 J3
              have F6 := see (see (see (see (see (see F6 "feed" mf) "many" mm) "inputs" mi) "rows" mr) "seen" ms) "some" mo
              clear nd3 hWt
              refine seq_step (P7 w s₁ cr D cvs b d a od many ok op on il ivs R tR tb sb so os oo) ?_ ?_
              --{S7
              · refine opq fun PP hPP => ?_
                (k_steps; (repeat' ((first | (refine Stop.out (n := 1) ?_; (first | ((k_dflt (refine' comp_open ?y9c ?y9k ?y9n ?_ ?y9s; (case y9c => with_unfolding_all rfl); (case y9k => exact rfl); (case y9n => decide); (case y9s => (intro _; rfl))))))) | (refine Stop.out (n := 2) ?_; (first | ((k_dflt (refine' comp_openA ?y9w ?y9c ?y9k ?y9n ?_ ?y9s; (case y9w => with_unfolding_all rfl); (case y9c => with_unfolding_all rfl); (case y9k => exact rfl); (case y9n => decide); (case y9s => (intro _; rfl))))))) | (refine Stop.out (n := 3) ?_; (first | ((k_dflt (refine' append_n ?y9F ?y9N ?y9U ?y9z ?_; (case y9F => k_asm); (case y9N => k_asm); (case y9U => k_updF); (case y9z => omega)); intro h9q F9q N9q; (try dsimp only at N9q))))) | (refine Stop.out (n := 4) ?_; (first | (((rename Fr _ _ _ _ => lF'q); (with_unfolding_all refine' For_invTF lF'q ?_ ?ks; (case ks => (intro _; rfl))))))) | (refine Stop.out (n := 5) ?_; (first | ((k_dflt (refine' method_inst ?k1 ?k2 ?k3 ?k4 ?k5 ?k6 ?k7 ?_; (case k1 => k_asm); (case k2 => k_asm); (case k3 => k_inst); (case k4 => k_is); (case k5 => k_is); (case k6 => k_is); (case k7 => k_get)); k_whole))))); k_steps)))
                refine Stop.out ?_
                rename IsRange _ _ _ _ _ _ _ _ => R7
                rename Fr _ _ _ _ => F7
                rename News _ _ _ _ => N7
                refine for_rangeT (n := many.toNat) (JS7 w s₁ cr D cvs b d a od many ok op on il ivs R tR tb sb so os oo) rfl R7 (small_one (by omega) (by omega) (by omega) (by omega)) (by rw [rangeSize_nat]; omega) F7 N7 ?_ (fun _ _ => rfl) ?_ ?_
                · exact ⟨ck, none, ot, W', tl', rl, kd, J6, hil6, rfl, rfl, rfl, rfl, rfl⟩
                · rintro i t m₁ nx sx own hin hoff ⟨ck', v, ot', W, tl, rl', e1, J, hilW, em1, em2, em3, em4, em5⟩ F₁ N₁
                  refine opq2 fun PT hPT => ?_
                  have F₁ := see (see (see (see (see F₁ "feed" em1) "inputs" em2) "rows" em3) "seen" em4) "some" em5
                  clear F7 N7 R7
                  obtain ⟨W9, hW⟩ : ∃ W9, W9 = W ++ own := ⟨_, rfl⟩
                  simp only [lst, List.cons_append] at N₁
                  rw [← hW] at N₁
                  obtain ⟨rs, n1, rfl, hrs⟩ := J.led.tb
                  obtain ⟨oT, hmT0, hT⟩ := J.tab
                  have hmT : (s₁.heap.objs.size + 1 + 1, oT) ∈ W9 := by rw [hW]; exact List.mem_append_left _ hmT0
                  have K9 : K7 _ _ W9 := J.k7 hW hoff (by simp [LA.xs]) (by simp)
                  have hrl := hrs.length
                  have hzr : rs.length ≤ 1000 := by simp [tsI] at hrl; omega
                  clear hrl
                  --{S7a
                  (try dsimp only); (try k_fold)
                  (k_steps; (repeat' ((first | (refine Stop.out (n := 1) ?_; (first | ((k_dflt (refine' comp_open ?y9c ?y9k ?y9n ?_ ?y9s; (case y9c => with_unfolding_all rfl); (case y9k => exact rfl); (case y9n => decide); (case y9s => (intro _; rfl))))))) | (refine Stop.out (n := 2) ?_; (first | ((k_dflt (refine' comp_openA ?y9w ?y9c ?y9k ?y9n ?_ ?y9s; (case y9w => with_unfolding_all rfl); (case y9c => with_unfolding_all rfl); (case y9k => exact rfl); (case y9n => decide); (case y9s => (intro _; rfl))))))) | (refine Stop.out (n := 3) ?_; (first | ((k_dflt (refine' append_n ?y9F ?y9N ?y9U ?y9z ?_; (case y9F => k_asm); (case y9N => k_asm); (case y9U => k_updF); (case y9z => omega)); intro h9q F9q N9q; (try dsimp only at N9q))))) | (refine Stop.out (n := 4) ?_; (first | (((rename Fr _ _ _ _ => lF'q); (with_unfolding_all refine' For_invTF lF'q ?_ ?ks; (case ks => (intro _; rfl))))))) | (refine Stop.out (n := 5) ?_; (first | ((k_dflt (refine' method_inst ?k1 ?k2 ?k3 ?k4 ?k5 ?k6 ?k7 ?_; (case k1 => k_asm); (case k2 => k_asm); (case k3 => k_inst); (case k4 => k_is); (case k5 => k_is); (case k6 => k_is); (case k7 => k_get)); k_whole))))); k_steps)))
                  refine Stop.out ?_
                  rename IsRange _ _ _ _ _ _ _ _ => R8
                  rename Fr _ _ _ _ => F8
                  rename News _ _ _ _ => N8
                  rename _ = Data.cell (some (Value.int _ _)) => hk8
                  rename_i h7 o8 h8 tk8 t18 u18 v18 a8
                  refine comp_range_U (n := R) (fun r ys nx => nx = _ ∧ ys = ((List.range r).map fun row => decide (row / 2 ^ i % 2 = 1)).map Value.bool) rfl (by decide) rfl rfl R8 (small_one (by omega) (by omega) (by omega) (by omega)) (by rw [rangeSize_nat]; omega) (by rw [sizeLine_eq]; omega) F8 N8 ⟨rfl, rfl⟩ ?_ ?_
                  · rintro r v' I oI C oC K m₂ h tk E' ys nx hr hP hoC hm2 F9 N9 off ne ⟨rfl, rfl⟩
                    refine opq fun PC hPC => ?_
                    obtain ⟨t', rfl⟩ := hP
                    clear F8 N8 R8
                    (try dsimp only); (try k_fold)
                    (k_steps; (repeat' ((first | (refine Stop.out (n := 1) ?_; (first | ((k_dflt (refine' comp_open ?y9c ?y9k ?y9n ?_ ?y9s; (case y9c => with_unfolding_all rfl); (case y9k => exact rfl); (case y9n => decide); (case y9s => (intro _; rfl))))))) | (refine Stop.out (n := 2) ?_; (first | ((k_dflt (refine' comp_openA ?y9w ?y9c ?y9k ?y9n ?_ ?y9s; (case y9w => with_unfolding_all rfl); (case y9c => with_unfolding_all rfl); (case y9k => exact rfl); (case y9n => decide); (case y9s => (intro _; rfl))))))) | (refine Stop.out (n := 3) ?_; (first | ((k_dflt (refine' append_n ?y9F ?y9N ?y9U ?y9z ?_; (case y9F => k_asm); (case y9N => k_asm); (case y9U => k_updF); (case y9z => omega)); intro h9q F9q N9q; (try dsimp only at N9q))))) | (refine Stop.out (n := 4) ?_; (first | (((rename Fr _ _ _ _ => lF'q); (with_unfolding_all refine' For_invTF lF'q ?_ ?ks; (case ks => (intro _; rfl))))))) | (refine Stop.out (n := 5) ?_; (first | ((k_dflt (refine' method_inst ?k1 ?k2 ?k3 ?k4 ?k5 ?k6 ?k7 ?_; (case k1 => k_asm); (case k2 => k_asm); (case k3 => k_inst); (case k4 => k_is); (case k5 => k_is); (case k6 => k_is); (case k7 => k_get)); k_whole))))); k_steps)))
                    (try dsimp only)
                    exact hPC _ _ (TEnd.intro (by assumption) (by assumption) off ⟨rfl, bits_succ r i⟩)
                  · rintro K h tk ys nx ⟨rfl, rfl⟩ F9 N9 o1
                    clear F8 N8 R8
                    (try dsimp only); (try k_fold)
                    (k_steps; (repeat' ((first | (refine Stop.out (n := 1) ?_; (first | ((k_dflt (refine' comp_open ?y9c ?y9k ?y9n ?_ ?y9s; (case y9c => with_unfolding_all rfl); (case y9k => exact rfl); (case y9n => decide); (case y9s => (intro _; rfl))))))) | (refine Stop.out (n := 2) ?_; (first | ((k_dflt (refine' comp_openA ?y9w ?y9c ?y9k ?y9n ?_ ?y9s; (case y9w => with_unfolding_all rfl); (case y9c => with_unfolding_all rfl); (case y9k => exact rfl); (case y9n => decide); (case y9s => (intro _; rfl))))))) | (refine Stop.out (n := 3) ?_; (first | ((k_dflt (refine' append_n ?y9F ?y9N ?y9U ?y9z ?_; (case y9F => k_asm); (case y9N => k_asm); (case y9U => k_updF); (case y9z => omega)); intro h9q F9q N9q; (try dsimp only at N9q))))) | (refine Stop.out (n := 4) ?_; (first | (((rename Fr _ _ _ _ => lF'q); (with_unfolding_all refine' For_invTF lF'q ?_ ?ks; (case ks => (intro _; rfl))))))) | (refine Stop.out (n := 5) ?_; (first | ((k_dflt (refine' method_inst ?k1 ?k2 ?k3 ?k4 ?k5 ?k6 ?k7 ?_; (case k1 => k_asm); (case k2 => k_asm); (case k3 => k_inst); (case k4 => k_is); (case k5 => k_is); (case k6 => k_is); (case k7 => k_get)); k_whole))))); k_steps)))
                    (try dsimp only)
                    rename Fr _ _ _ _ => F6
                    rename News _ _ _ _ => N6
                    exact hPT _ _ (next_end F6 N6 (s7_sub hW) (s7_own hW) (s7_off hW hoff o1) ⟨_, _, _, _, _, _, hk8, s7_turn J hrs hW N6 o1, .tail _ hilW, rfl, rfl, rfl, rfl, rfl⟩)
                  --}S7a
                · rintro m₁ nx h tk ⟨ck', v, ot', W, tl, rl', e1, J, hilW, em1, em2, em3, em4, em5⟩ F₁ N₁
                  refine hPP _ _ (Post.mk ⟨_, _, _, ot', (s₁.heap.objs.size + 1 + 1 + 1, ck') :: W, tl, rl', F₁, em1, em2, em3, em4, em5, s7_absorb N₁, J.lap rfl, .tail _ hilW⟩)
              --}S7
              · rintro s₂ ⟨h, tk, m, ot, W, tl, rl, F7, mf, mi, mr, ms, mo, N7, J7, hil7⟩
                clear F6 N6 J6
                have F7 := see (see (see (see (see F7 "feed" mf) "inputs" mi) "rows" mr) "seen" ms) "some" mo
                refine seq_step (P8 w s₁ D cvs b d a tb sb so many.toNat R il ivs) ?_ ?_
                --{S8
                · refine opq fun PP hPP => ?_
                  (k_steps; (repeat' ((first | (refine Stop.out (n := 1) ?_; (first | ((k_dflt (refine' comp_open ?y9c ?y9k ?y9n ?_ ?y9s; (case y9c => with_unfolding_all rfl); (case y9k => exact rfl); (case y9n => decide); (case y9s => (intro _; rfl))))))) | (refine Stop.out (n := 2) ?_; (first | ((k_dflt (refine' comp_openA ?y9w ?y9c ?y9k ?y9n ?_ ?y9s; (case y9w => with_unfolding_all rfl); (case y9c => with_unfolding_all rfl); (case y9k => exact rfl); (case y9n => decide); (case y9s => (intro _; rfl))))))) | (refine Stop.out (n := 3) ?_; (first | ((k_dflt (refine' append_n ?y9F ?y9N ?y9U ?y9z ?_; (case y9F => k_asm); (case y9N => k_asm); (case y9U => k_updF); (case y9z => omega)); intro h9q F9q N9q; (try dsimp only at N9q))))) | (refine Stop.out (n := 4) ?_; (first | (((rename Fr _ _ _ _ => lF'q); (with_unfolding_all refine' For_invTF lF'q ?_ ?ks; (case ks => (intro _; rfl))))))) | (refine Stop.out (n := 5) ?_; (first | ((k_dflt (refine' method_inst ?k1 ?k2 ?k3 ?k4 ?k5 ?k6 ?k7 ?_; (case k1 => k_asm); (case k2 => k_asm); (case k3 => k_inst); (case k4 => k_is); (case k5 => k_is); (case k6 => k_is); (case k7 => k_get)); k_whole))))); k_steps)))
                  refine Stop.out ?_
                  rename IsRange _ _ _ _ _ _ _ _ => R8
                  rename Fr _ _ _ _ => F8
                  rename News _ _ _ _ => N8
                  refine for_rangeT (n := 7) (JS8 w s₁ D cvs b d a tb sb so many.toNat R tR il ivs) rfl R8 (small_one (by decide) (by decide) (by decide) (by decide)) (by rw [rangeSize_nat]; rfl) F8 N8 ?_ (fun _ _ => rfl) ?_ ?_
                  · exact ⟨_, W, tl, rl, ot, os, oo, od, ok, op, on, cr, none, rd, J7, inv_start _ _ (by omega), hil7, rfl, rfl, rfl, rfl, rfl⟩
                  · rintro lap tlap m₁ nx sx own hlap hoff ⟨st, W, tl, rl, ot, os, oo, od, ok, op, on, cr', v, hcr, J0, I0, hil0, em1, em2, em3, em4, em5⟩ F₁ N₁
                    refine opq2 fun PL hPL => ?_
                    have F₁ := see (see (see (see (see F₁ "feed" em1) "inputs" em2) "rows" em3) "seen" em4) "some" em5
                    clear F8 N8 R8 J7
                    (try clear F7)
                    obtain ⟨X, hX⟩ : ∃ X, X = W ++ own := ⟨_, rfl⟩
                    obtain ⟨J1, T1⟩ := J0.start hX hoff
                    simp only [lst, List.cons_append] at N₁
                    rw [← hX] at N₁
                    have hk0 := I0.k0
                    have hk1 := I0.k1
                    (try dsimp only); (try k_fold)
                    (k_steps; (repeat' ((first | (refine Stop.out (n := 1) ?_; (first | ((k_dflt (refine' comp_open ?y9c ?y9k ?y9n ?_ ?y9s; (case y9c => with_unfolding_all rfl); (case y9k => exact rfl); (case y9n => decide); (case y9s => (intro _; rfl))))))) | (refine Stop.out (n := 2) ?_; (first | ((k_dflt (refine' comp_openA ?y9w ?y9c ?y9k ?y9n ?_ ?y9s; (case y9w => with_unfolding_all rfl); (case y9c => with_unfolding_all rfl); (case y9k => exact rfl); (case y9n => decide); (case y9s => (intro _; rfl))))))) | (refine Stop.out (n := 3) ?_; (first | ((k_dflt (refine' append_n ?y9F ?y9N ?y9U ?y9z ?_; (case y9F => k_asm); (case y9N => k_asm); (case y9U => k_updF); (case y9z => omega)); intro h9q F9q N9q; (try dsimp only at N9q))))) | (refine Stop.out (n := 4) ?_; (first | (((rename Fr _ _ _ _ => lF'q); (with_unfolding_all refine' For_invTF lF'q ?_ ?ks; (case ks => (intro _; rfl))))))) | (refine Stop.out (n := 5) ?_; (first | ((k_dflt (refine' method_inst ?k1 ?k2 ?k3 ?k4 ?k5 ?k6 ?k7 ?_; (case k1 => k_asm); (case k2 => k_asm); (case k3 => k_inst); (case k4 => k_is); (case k5 => k_is); (case k6 => k_is); (case k7 => k_get)); k_whole))))); k_steps)))
                    refine Stop.out ?_
                    k_dflt (refine' law_draw ?y9B ?y9F ?y9X ?y9T ?y9N ?y9f ?y9k ?y9d ?y9u J1.led hci hcn hb0 hb1 ?y91 ?y92 ?y93 ?y94 ?_; (case y9B => k_asm); (case y9F => k_asm); (case y9X => k_asm); (case y9T => k_asm); (case y9N => k_asm); (case y9f => exact rfl); (case y9k => exact rfl); (case y9d => decide); (case y9u => decide); (case y91 => omega); (case y92 => omega); (case y93 => decide); (case y94 => decide))
                    intro kind t2 h2 tk2 od2 hki0 hki8 F2 N2 L2
                    have J2 := J1.of L2 fun _ h => h
                    clear L2
                    (try dsimp only); (try k_fold)
                    (k_steps; (repeat' ((first | (refine Stop.out (n := 1) ?_; (first | ((k_dflt (refine' comp_open ?y9c ?y9k ?y9n ?_ ?y9s; (case y9c => with_unfolding_all rfl); (case y9k => exact rfl); (case y9n => decide); (case y9s => (intro _; rfl))))))) | (refine Stop.out (n := 2) ?_; (first | ((k_dflt (refine' comp_openA ?y9w ?y9c ?y9k ?y9n ?_ ?y9s; (case y9w => with_unfolding_all rfl); (case y9c => with_unfolding_all rfl); (case y9k => exact rfl); (case y9n => decide); (case y9s => (intro _; rfl))))))) | (refine Stop.out (n := 3) ?_; (first | ((k_dflt (refine' append_n ?y9F ?y9N ?y9U ?y9z ?_; (case y9F => k_asm); (case y9N => k_asm); (case y9U => k_updF); (case y9z => omega)); intro h9q F9q N9q; (try dsimp only at N9q))))) | (refine Stop.out (n := 4) ?_; (first | (((rename Fr _ _ _ _ => lF'q); (with_unfolding_all refine' For_invTF lF'q ?_ ?ks; (case ks => (intro _; rfl))))))) | (refine Stop.out (n := 5) ?_; (first | ((k_dflt (refine' method_inst ?k1 ?k2 ?k3 ?k4 ?k5 ?k6 ?k7 ?_; (case k1 => k_asm); (case k2 => k_asm); (case k3 => k_inst); (case k4 => k_is); (case k5 => k_is); (case k6 => k_is); (case k7 => k_get)); k_whole))))); k_steps)))
                    refine Stop.out ?_
                    rename Fr _ _ _ _ => F3
                    rename News _ _ _ _ => N3
                    refine val_step (α := Value) (PVn w s₁ D cvs b d a tb sb so R tR il sx kind t2 cr' X tl rl st ot os oo ok op on) ?_ ?_
                    --{S8b
                    · refine opq fun PV hPV => ?_
                      refine IfExp_ ?_
                      (k_steps; (repeat' ((first | (refine Stop.out (n := 1) ?_; (first | ((k_dflt (refine' comp_open ?y9c ?y9k ?y9n ?_ ?y9s; (case y9c => with_unfolding_all rfl); (case y9k => exact rfl); (case y9n => decide); (case y9s => (intro _; rfl))))))) | (refine Stop.out (n := 2) ?_; (first | ((k_dflt (refine' comp_openA ?y9w ?y9c ?y9k ?y9n ?_ ?y9s; (case y9w => with_unfolding_all rfl); (case y9c => with_unfolding_all rfl); (case y9k => exact rfl); (case y9n => decide); (case y9s => (intro _; rfl))))))) | (refine Stop.out (n := 3) ?_; (first | ((k_dflt (refine' append_n ?y9F ?y9N ?y9U ?y9z ?_; (case y9F => k_asm); (case y9N => k_asm); (case y9U => k_updF); (case y9z => omega)); intro h9q F9q N9q; (try dsimp only at N9q))))) | (refine Stop.out (n := 4) ?_; (first | (((rename Fr _ _ _ _ => lF'q); (with_unfolding_all refine' For_invTF lF'q ?_ ?ks; (case ks => (intro _; rfl))))))) | (refine Stop.out (n := 5) ?_; (first | ((k_dflt (refine' method_inst ?k1 ?k2 ?k3 ?k4 ?k5 ?k6 ?k7 ?_; (case k1 => k_asm); (case k2 => k_asm); (case k3 => k_inst); (case k4 => k_is); (case k5 => k_is); (case k6 => k_is); (case k7 => k_get)); k_whole))))); k_steps)))
                      · refine Stop.out ?_
                        k_dflt (refine' law_draw ?y9B ?y9F ?y9X ?y9T ?y9N ?y9f ?y9k ?y9d ?y9u J2.led hci hcn hb0 hb1 ?y91 ?y92 ?y93 ?y94 ?_; (case y9B => k_asm); (case y9F => k_asm); (case y9X => k_asm); (case y9T => k_asm); (case y9N => k_asm); (case y9f => exact rfl); (case y9k => exact rfl); (case y9d => decide); (case y9u => decide); (case y91 => ((try dsimp only); omega)); (case y92 => ((try dsimp only); omega)); (case y93 => decide); (case y94 => decide))
                        intro x4 t4 h4 tk4 od4 hx0 hx4 F4 N4 L4
                        exact hPV _ _ (PostV.mk (by rw [← Int.toNat_of_nonneg hx0]; exact ⟨x4.toNat, t4, h4, tk4, od4, _, _, F4, rfl, rfl, rfl, rfl, rfl, rfl, N4, J2.of L4 (fun _ h => h), by omega, by omega, by omega, by omega, by (try dsimp only); omega, by (try dsimp only); omega⟩))
                      · refine Stop.out ?_
                        refine IfExp_ ?_
                        (k_steps; (repeat' ((first | (refine Stop.out (n := 1) ?_; (first | ((k_dflt (refine' comp_open ?y9c ?y9k ?y9n ?_ ?y9s; (case y9c => with_unfolding_all rfl); (case y9k => exact rfl); (case y9n => decide); (case y9s => (intro _; rfl))))))) | (refine Stop.out (n := 2) ?_; (first | ((k_dflt (refine' comp_openA ?y9w ?y9c ?y9k ?y9n ?_ ?y9s; (case y9w => with_unfolding_all rfl); (case y9c => with_unfolding_all rfl); (case y9k => exact rfl); (case y9n => decide); (case y9s => (intro _; rfl))))))) | (refine Stop.out (n := 3) ?_; (first | ((k_dflt (refine' append_n ?y9F ?y9N ?y9U ?y9z ?_; (case y9F => k_asm); (case y9N => k_asm); (case y9U => k_updF); (case y9z => omega)); intro h9q F9q N9q; (try dsimp only at N9q))))) | (refine Stop.out (n := 4) ?_; (first | (((rename Fr _ _ _ _ => lF'q); (with_unfolding_all refine' For_invTF lF'q ?_ ?ks; (case ks => (intro _; rfl))))))) | (refine Stop.out (n := 5) ?_; (first | ((k_dflt (refine' method_inst ?k1 ?k2 ?k3 ?k4 ?k5 ?k6 ?k7 ?_; (case k1 => k_asm); (case k2 => k_asm); (case k3 => k_inst); (case k4 => k_is); (case k5 => k_is); (case k6 => k_is); (case k7 => k_get)); k_whole))))); k_steps)))
                        · exact hPV _ _ (PostV.mk ⟨3, _, _, _, od2, _, _, F3, rfl, rfl, rfl, rfl, rfl, rfl, N3, J2, by omega, by omega, by omega, by omega, by (try dsimp only); omega, by (try dsimp only); omega⟩)
                        · exact hPV _ _ (PostV.mk ⟨2, _, _, _, od2, _, _, F3, rfl, rfl, rfl, rfl, rfl, rfl, N3, J2, by omega, by omega, by omega, by omega, by (try dsimp only); omega, by (try dsimp only); omega⟩)
                    --}S8b
                    rintro v9 s9 ⟨mn, t4, h4, tk4, od4, k4, m4, F4, em1, em2, em3, em4, em5, em6, N4, J4, hm3, hmA, hmB, hmC, hka, hkb⟩
                    clear F3 N3 J2
                    (try clear F2)
                    (try clear N2)
                    have F4 := see (see (see (see (see (see F4 "feed" em1) "inputs" em2) "rows" em3) "seen" em4) "some" em5) "kind" em6
                    have hss1 := I0.ss1
                    have hss2 := I0.ss2
                    have hn3 := I0.n3
                    --{S8c
                    (try dsimp only); (try k_fold)
                    (k_steps; (repeat' ((first | (refine Stop.out (n := 1) ?_; (first | ((k_dflt (refine' comp_open ?y9c ?y9k ?y9n ?_ ?y9s; (case y9c => with_unfolding_all rfl); (case y9k => exact rfl); (case y9n => decide); (case y9s => (intro _; rfl))))))) | (refine Stop.out (n := 2) ?_; (first | ((k_dflt (refine' comp_openA ?y9w ?y9c ?y9k ?y9n ?_ ?y9s; (case y9w => with_unfolding_all rfl); (case y9c => with_unfolding_all rfl); (case y9k => exact rfl); (case y9n => decide); (case y9s => (intro _; rfl))))))) | (refine Stop.out (n := 3) ?_; (first | ((k_dflt (refine' append_n ?y9F ?y9N ?y9U ?y9z ?_; (case y9F => k_asm); (case y9N => k_asm); (case y9U => k_updF); (case y9z => omega)); intro h9q F9q N9q; (try dsimp only at N9q))))) | (refine Stop.out (n := 4) ?_; (first | (((rename Fr _ _ _ _ => lF'q); (with_unfolding_all refine' For_invTF lF'q ?_ ?ks; (case ks => (intro _; rfl))))))) | (refine Stop.out (n := 5) ?_; (first | ((k_dflt (refine' method_inst ?k1 ?k2 ?k3 ?k4 ?k5 ?k6 ?k7 ?_; (case k1 => k_asm); (case k2 => k_asm); (case k3 => k_inst); (case k4 => k_is); (case k5 => k_is); (case k6 => k_is); (case k7 => k_get)); k_whole))))); k_steps)))
                    refine Stop.out ?_
                    k_dflt (refine' law_gates ?y9B ?y9F ?y9X ?y9T ?y9N ?y9f ?y9k ?y9d ?y9u J4.led hci hcn hb0 hb1 ?y91 ?y92 hm3 ?y93 ?y94 ?_; (case y9B => k_asm); (case y9F => k_asm); (case y9X => k_asm); (case y9T => k_asm); (case y9N => k_asm); (case y9f => exact rfl); (case y9k => exact rfl); (case y9d => decide); (case y9u => decide); (case y91 => ((try dsimp only); omega)); (case y92 => ((try dsimp only); omega)); (case y93 => ((try dsimp only); omega)); (case y94 => ((try dsimp only); omega)))
                    intro fl wa na h5 tk5 od5 F5 N5 hwa L5 hfl
                    have J5 := J4.of L5 (fun _ h => .tail _ h)
                    have T5 := T1.one (f := (fl, PySem.W.listOf (List.toArray wa) na)) hfl
                    clear L5 J4
                    dsimp only at hwa J5
                    obtain ⟨oN, hmN, hN⟩ := J5.net
                    obtain ⟨oT, hmT, hT⟩ := J5.tab
                    have hmI := J5.led.nN.inst
                    obtain ⟨z1, z2, z3, z4, z5, z6, z7, hmD⟩ := J5.led.nN.dict
                    have hal := gatesV_length cns b st.ss k4 mn
                    have hai := gatesV_ok I0 cns b k4 mn
                    generalize gatesV cns b st.ss k4 mn = ar at *
                    have hargs : ArgsOk st kind ar := ⟨by omega, by omega, by omega, by omega, hai⟩
                    have TK := inv_turn I0 hlap kind hki0 hki8 ar hargs
                    have I9 := inv_next I0 hlap kind hki0 hki8 ar hargs (k4 + 2 * (mn : Int)) (by omega) (by omega)
                    have hsm := I0.smallc (by omega)
                    (try dsimp only); (try k_fold)
                    (k_steps; (repeat' ((first | (refine Stop.out (n := 1) ?_; (first | ((k_dflt (refine' comp_open ?y9c ?y9k ?y9n ?_ ?y9s; (case y9c => with_unfolding_all rfl); (case y9k => exact rfl); (case y9n => decide); (case y9s => (intro _; rfl))))))) | (refine Stop.out (n := 2) ?_; (first | ((k_dflt (refine' comp_openA ?y9w ?y9c ?y9k ?y9n ?_ ?y9s; (case y9w => with_unfolding_all rfl); (case y9c => with_unfolding_all rfl); (case y9k => exact rfl); (case y9n => decide); (case y9s => (intro _; rfl))))))) | (refine Stop.out (n := 3) ?_; (first | ((k_dflt (refine' append_n ?y9F ?y9N ?y9U ?y9z ?_; (case y9F => k_asm); (case y9N => k_asm); (case y9U => k_updF); (case y9z => omega)); intro h9q F9q N9q; (try dsimp only at N9q))))) | (refine Stop.out (n := 4) ?_; (first | (((rename Fr _ _ _ _ => lF'q); (with_unfolding_all refine' For_invTF lF'q ?_ ?ks; (case ks => (intro _; rfl))))))) | (refine Stop.out (n := 5) ?_; (first | ((k_dflt (refine' method_inst ?k1 ?k2 ?k3 ?k4 ?k5 ?k6 ?k7 ?_; (case k1 => k_asm); (case k2 => k_asm); (case k3 => k_inst); (case k4 => k_is); (case k5 => k_is); (case k6 => k_is); (case k7 => k_get)); k_whole))))); k_steps)))
                    refine Stop.out ?_
                    k_dflt (refine' law_size ?y9B ?y9F ?y9X ?y9T ?y9N ?y9f ?y9k ?y9d ?y9u J5.led hsm (by decide) ?_; (case y9B => k_asm); (case y9F => k_asm); (case y9X => k_asm); (case y9T => k_asm); (case y9N => k_asm); (case y9f => exact rfl); (case y9k => exact rfl); (case y9d => decide); (case y9u => decide))
                    intro t6 h6 tk6 F6 N6
                    (try dsimp only); (try k_fold)
                    (k_steps; (repeat' ((first | (refine Stop.out (n := 1) ?_; (first | ((k_dflt (refine' comp_open ?y9c ?y9k ?y9n ?_ ?y9s; (case y9c => with_unfolding_all rfl); (case y9k => exact rfl); (case y9n => decide); (case y9s => (intro _; rfl))))))) | (refine Stop.out (n := 2) ?_; (first | ((k_dflt (refine' comp_openA ?y9w ?y9c ?y9k ?y9n ?_ ?y9s; (case y9w => with_unfolding_all rfl); (case y9c => with_unfolding_all rfl); (case y9k => exact rfl); (case y9n => decide); (case y9s => (intro _; rfl))))))) | (refine Stop.out (n := 3) ?_; (first | ((k_dflt (refine' append_n ?y9F ?y9N ?y9U ?y9z ?_; (case y9F => k_asm); (case y9N => k_asm); (case y9U => k_updF); (case y9z => omega)); intro h9q F9q N9q; (try dsimp only at N9q))))) | (refine Stop.out (n := 4) ?_; (first | (((rename Fr _ _ _ _ => lF'q); (with_unfolding_all refine' For_invTF lF'q ?_ ?ks; (case ks => (intro _; rfl))))))) | (refine Stop.out (n := 5) ?_; (first | ((k_dflt (refine' method_inst ?k1 ?k2 ?k3 ?k4 ?k5 ?k6 ?k7 ?_; (case k1 => k_asm); (case k2 => k_asm); (case k3 => k_inst); (case k4 => k_is); (case k5 => k_is); (case k6 => k_is); (case k7 => k_get)); k_whole))))); k_steps)))
                    refine Stop.out ?_
                    k_dflt (refine' law_asked ?y9B ?y9F ?y9X ?y9T ?y9N ?y9f ?y9k ?y9d ?y9u J5.led hsm (by decide) hki0 hki8 (.head _) ⟨rfl, rfl⟩ hwa (by omega) hargs.two hargs.three ?_; (case y9B => k_asm); (case y9F => k_asm); (case y9X => k_asm); (case y9T => k_asm); (case y9N => k_asm); (case y9f => exact rfl); (case y9k => exact rfl); (case y9d => decide); (case y9u => decide))
                    intro t7 h7 tk7 ok7 op7 on7 add7 F7 N7 L7 hne7
                    have J7 := J5.of L7 (fun _ h => List.mem_append_right _ h)
                    have T7 := T5.net hne7
                    dsimp only at J7
                    replace hmN := List.mem_append_right add7 hmN
                    replace hmT := List.mem_append_right add7 hmT
                    replace hmI := List.mem_append_right add7 hmI
                    replace hmD := List.mem_append_right add7 hmD
                    clear L7
                    (try dsimp only); (try k_fold)
                    (k_steps; (repeat' ((first | (refine Stop.out (n := 1) ?_; (first | ((k_dflt (refine' comp_open ?y9c ?y9k ?y9n ?_ ?y9s; (case y9c => with_unfolding_all rfl); (case y9k => exact rfl); (case y9n => decide); (case y9s => (intro _; rfl))))))) | (refine Stop.out (n := 2) ?_; (first | ((k_dflt (refine' comp_openA ?y9w ?y9c ?y9k ?y9n ?_ ?y9s; (case y9w => with_unfolding_all rfl); (case y9c => with_unfolding_all rfl); (case y9k => exact rfl); (case y9n => decide); (case y9s => (intro _; rfl))))))) | (refine Stop.out (n := 3) ?_; (first | ((k_dflt (refine' append_n ?y9F ?y9N ?y9U ?y9z ?_; (case y9F => k_asm); (case y9N => k_asm); (case y9U => k_updF); (case y9z => omega)); intro h9q F9q N9q; (try dsimp only at N9q))))) | (refine Stop.out (n := 4) ?_; (first | (((rename Fr _ _ _ _ => lF'q); (with_unfolding_all refine' For_invTF lF'q ?_ ?ks; (case ks => (intro _; rfl))))))) | (refine Stop.out (n := 5) ?_; (first | ((k_dflt (refine' method_inst ?k1 ?k2 ?k3 ?k4 ?k5 ?k6 ?k7 ?_; (case k1 => k_asm); (case k2 => k_asm); (case k3 => k_inst); (case k4 => k_is); (case k5 => k_is); (case k6 => k_is); (case k7 => k_get)); k_whole))))); k_steps)))
                    refine Stop.out ?_
                    (try dsimp only)
                    k_dflt (refine' law_size ?y9B ?y9F ?y9X ?y9T ?y9N ?y9f ?y9k ?y9d ?y9u J7.led TK.small (by decide) ?_; (case y9B => k_asm); (case y9F => k_asm); (case y9X => k_asm); (case y9T => k_asm); (case y9N => k_asm); (case y9f => exact rfl); (case y9k => exact rfl); (case y9d => decide); (case y9u => decide))
                    intro t8 h8 tk8 F8 N8
                    (try dsimp only); (try k_fold)
                    (k_steps; (repeat' ((first | (refine Stop.out (n := 1) ?_; (first | ((k_dflt (refine' comp_open ?y9c ?y9k ?y9n ?_ ?y9s; (case y9c => with_unfolding_all rfl); (case y9k => exact rfl); (case y9n => decide); (case y9s => (intro _; rfl))))))) | (refine Stop.out (n := 2) ?_; (first | ((k_dflt (refine' comp_openA ?y9w ?y9c ?y9k ?y9n ?_ ?y9s; (case y9w => with_unfolding_all rfl); (case y9c => with_unfolding_all rfl); (case y9k => exact rfl); (case y9n => decide); (case y9s => (intro _; rfl))))))) | (refine Stop.out (n := 3) ?_; (first | ((k_dflt (refine' append_n ?y9F ?y9N ?y9U ?y9z ?_; (case y9F => k_asm); (case y9N => k_asm); (case y9U => k_updF); (case y9z => omega)); intro h9q F9q N9q; (try dsimp only at N9q))))) | (refine Stop.out (n := 4) ?_; (first | (((rename Fr _ _ _ _ => lF'q); (with_unfolding_all refine' For_invTF lF'q ?_ ?ks; (case ks => (intro _; rfl))))))) | (refine Stop.out (n := 5) ?_; (first | ((k_dflt (refine' method_inst ?k1 ?k2 ?k3 ?k4 ?k5 ?k6 ?k7 ?_; (case k1 => k_asm); (case k2 => k_asm); (case k3 => k_inst); (case k4 => k_is); (case k5 => k_is); (case k6 => k_is); (case k7 => k_get)); k_whole))))); k_steps)))
                    refine Stop.out ?_
                    refine val_step (α := Value) (fun (v : Value) (s' : Shared) => ∃ e : Int, ∃ t tk', v = .int e t ∧ s' = { sx with heap := h8, toks := tk' } ∧ e = if kind < 5 then 1 else 3) ?_ ?_
                    · refine opq fun PV hPV => ?_
                      refine IfExp_ ?_
                      (k_steps; (repeat' ((first | (refine Stop.out (n := 1) ?_; (first | ((k_dflt (refine' comp_open ?y9c ?y9k ?y9n ?_ ?y9s; (case y9c => with_unfolding_all rfl); (case y9k => exact rfl); (case y9n => decide); (case y9s => (intro _; rfl))))))) | (refine Stop.out (n := 2) ?_; (first | ((k_dflt (refine' comp_openA ?y9w ?y9c ?y9k ?y9n ?_ ?y9s; (case y9w => with_unfolding_all rfl); (case y9c => with_unfolding_all rfl); (case y9k => exact rfl); (case y9n => decide); (case y9s => (intro _; rfl))))))) | (refine Stop.out (n := 3) ?_; (first | ((k_dflt (refine' append_n ?y9F ?y9N ?y9U ?y9z ?_; (case y9F => k_asm); (case y9N => k_asm); (case y9U => k_updF); (case y9z => omega)); intro h9q F9q N9q; (try dsimp only at N9q))))) | (refine Stop.out (n := 4) ?_; (first | (((rename Fr _ _ _ _ => lF'q); (with_unfolding_all refine' For_invTF lF'q ?_ ?ks; (case ks => (intro _; rfl))))))) | (refine Stop.out (n := 5) ?_; (first | ((k_dflt (refine' method_inst ?k1 ?k2 ?k3 ?k4 ?k5 ?k6 ?k7 ?_; (case k1 => k_asm); (case k2 => k_asm); (case k3 => k_inst); (case k4 => k_is); (case k5 => k_is); (case k6 => k_is); (case k7 => k_get)); k_whole))))); k_steps)))
                      · exact hPV _ _ (PostV.mk ⟨1, _, _, rfl, rfl, by rw [if_pos (by assumption)]⟩)
                      · exact hPV _ _ (PostV.mk ⟨3, _, _, rfl, rfl, by rw [if_neg (by omega)]⟩)
                    rintro v8 s8 ⟨e8, t9, tk9, rfl, rfl, he8⟩
                    have hsz := TK.size
                    rw [← he8] at hsz
                    have he9 : e8 = 1 ∨ e8 = 3 := by rw [he8]; split <;> simp
                    clear he8
                    (try dsimp only); (try k_fold)
                    (k_steps; (repeat' ((first | (refine Stop.out (n := 1) ?_; (first | ((k_dflt (refine' comp_open ?y9c ?y9k ?y9n ?_ ?y9s; (case y9c => with_unfolding_all rfl); (case y9k => exact rfl); (case y9n => decide); (case y9s => (intro _; rfl))))))) | (refine Stop.out (n := 2) ?_; (first | ((k_dflt (refine' comp_openA ?y9w ?y9c ?y9k ?y9n ?_ ?y9s; (case y9w => with_unfolding_all rfl); (case y9c => with_unfolding_all rfl); (case y9k => exact rfl); (case y9n => decide); (case y9s => (intro _; rfl))))))) | (refine Stop.out (n := 3) ?_; (first | ((k_dflt (refine' append_n ?y9F ?y9N ?y9U ?y9z ?_; (case y9F => k_asm); (case y9N => k_asm); (case y9U => k_updF); (case y9z => omega)); intro h9q F9q N9q; (try dsimp only at N9q))))) | (refine Stop.out (n := 4) ?_; (first | (((rename Fr _ _ _ _ => lF'q); (with_unfolding_all refine' For_invTF lF'q ?_ ?ks; (case ks => (intro _; rfl))))))) | (refine Stop.out (n := 5) ?_; (first | ((k_dflt (refine' method_inst ?k1 ?k2 ?k3 ?k4 ?k5 ?k6 ?k7 ?_; (case k1 => k_asm); (case k2 => k_asm); (case k3 => k_inst); (case k4 => k_is); (case k5 => k_is); (case k6 => k_is); (case k7 => k_get)); k_whole))))); k_steps)))
                    refine Stop.out ?_
                    (try dsimp only)
                    have hR8 : R ≤ 8 := by omega
                    k_dflt (refine' law_grown ?y9B ?y9F ?y9X ?y9T ?y9N ?y9f ?y9k ?y9d ?y9u J7.led TK.small (by decide) TK.hkp hR8 TK.ht2 TK.htk TK.hrow TK.hsn TK.hok ?_; (case y9B => k_asm); (case y9F => k_asm); (case y9X => k_asm); (case y9T => k_asm); (case y9N => k_asm); (case y9f => exact rfl); (case y9k => exact rfl); (case y9d => decide); (case y9u => decide))
                    intro h9 tk9' ot9 os9 add9 F9 N9 L9 hne9
                    have J9 := J7.of L9 (fun _ h => List.mem_append_right _ h)
                    have T9 := T7.row hne9
                    dsimp only at J9
                    clear L9
                    replace hmN := List.mem_append_right add9 hmN
                    replace hmT := List.mem_append_right add9 hmT
                    replace hmI := List.mem_append_right add9 hmI
                    replace hmD := List.mem_append_right add9 hmD
                    (try dsimp only); (try k_fold)
                    (k_steps; (repeat' ((first | (refine Stop.out (n := 1) ?_; (first | ((k_dflt (refine' comp_open ?y9c ?y9k ?y9n ?_ ?y9s; (case y9c => with_unfolding_all rfl); (case y9k => exact rfl); (case y9n => decide); (case y9s => (intro _; rfl))))))) | (refine Stop.out (n := 2) ?_; (first | ((k_dflt (refine' comp_openA ?y9w ?y9c ?y9k ?y9n ?_ ?y9s; (case y9w => with_unfolding_all rfl); (case y9c => with_unfolding_all rfl); (case y9k => exact rfl); (case y9n => decide); (case y9s => (intro _; rfl))))))) | (refine Stop.out (n := 3) ?_; (first | ((k_dflt (refine' append_n ?y9F ?y9N ?y9U ?y9z ?_; (case y9F => k_asm); (case y9N => k_asm); (case y9U => k_updF); (case y9z => omega)); intro h9q F9q N9q; (try dsimp only at N9q))))) | (refine Stop.out (n := 4) ?_; (first | (((rename Fr _ _ _ _ => lF'q); (with_unfolding_all refine' For_invTF lF'q ?_ ?ks; (case ks => (intro _; rfl))))))) | (refine Stop.out (n := 5) ?_; (first | ((k_dflt (refine' method_inst ?k1 ?k2 ?k3 ?k4 ?k5 ?k6 ?k7 ?_; (case k1 => k_asm); (case k2 => k_asm); (case k3 => k_inst); (case k4 => k_is); (case k5 => k_is); (case k6 => k_is); (case k7 => k_get)); k_whole))))); k_steps)))
                    refine Stop.out ?_
                    rename IsRange _ _ _ _ _ _ _ _ => R10
                    rename Fr _ _ _ _ => F10
                    rename News _ _ _ _ => N10
                    refine for_rangeT (n := R) (fun _ => JR s₁ d a tb sb so R tR il kind t2 ot9 os9 oo ok7 op7 on7 od5 (add9 ++ (add7 ++ (fl, PySem.W.listOf (List.toArray wa) na) :: X)) fl (askedF st.c kind ar).2 t7) rfl R10 (small_one (by omega) (by omega) (by omega) (by omega)) (by rw [rangeSize_nat]; omega) F10 N10 ?_ (fun _ _ => rfl) ?_ ?_
                    · exact ⟨cr', v, hcr, rfl, rfl, rfl, rfl, rfl, rfl, rfl, rfl⟩
                    · rintro row trow m₁ nx sy own' hrow hoff' ⟨cr'', v', hcr'', eb1, eb2, eb3, eb4, eb5, eb6, eb7, eb8⟩ F₁ N₁
                      refine opq2 fun PR hPR => ?_
                      have F₁ := see (see (see (see (see (see (see (see F₁ "feed" eb1) "inputs" eb2) "rows" eb3) "seen" eb4) "some" eb5) "kind" eb6) "args" eb7) "g" eb8
                      clear F10 N10 R10
                      obtain ⟨Y, hY⟩ : ∃ Y, Y = (add9 ++ (add7 ++ (fl, PySem.W.listOf (List.toArray wa) na) :: X)) ++ own' := ⟨_, rfl⟩
                      obtain ⟨J11, T11⟩ := J9.start hY hoff'
                      simp only [lst, List.cons_append] at N₁
                      rw [← hY] at N₁
                      replace hmN := List.mem_append_left own' hmN
                      rw [← hY] at hmN
                      replace hmT := List.mem_append_left own' hmT
                      rw [← hY] at hmT
                      have hAp := apart J11.led.nd
                      have hOf := J11.led.off
                      --{S8d
                      have hfY : (fl, PySem.W.listOf (List.toArray wa) na) ∈ Y := by rw [hY]; exact List.mem_append_left _ (List.mem_append_right _ (List.mem_append_right _ (.head _)))
                      have hwl := hwa.length
                      (try dsimp only); (try k_fold)
                      (k_steps; (repeat' ((first | (refine Stop.out (n := 1) ?_; (first | ((k_dflt (refine' comp_open ?y9c ?y9k ?y9n ?_ ?y9s; (case y9c => with_unfolding_all rfl); (case y9k => exact rfl); (case y9n => decide); (case y9s => (intro _; rfl))))))) | (refine Stop.out (n := 2) ?_; (first | ((k_dflt (refine' comp_openA ?y9w ?y9c ?y9k ?y9n ?_ ?y9s; (case y9w => with_unfolding_all rfl); (case y9c => with_unfolding_all rfl); (case y9k => exact rfl); (case y9n => decide); (case y9s => (intro _; rfl))))))) | (refine Stop.out (n := 3) ?_; (first | ((k_dflt (refine' append_n ?y9F ?y9N ?y9U ?y9z ?_; (case y9F => k_asm); (case y9N => k_asm); (case y9U => k_updF); (case y9z => omega)); intro h9q F9q N9q; (try dsimp only at N9q))))) | (refine Stop.out (n := 4) ?_; (first | (((rename Fr _ _ _ _ => lF'q); (with_unfolding_all refine' For_invTF lF'q ?_ ?ks; (case ks => (intro _; rfl))))))) | (refine Stop.out (n := 5) ?_; (first | ((k_dflt (refine' method_inst ?k1 ?k2 ?k3 ?k4 ?k5 ?k6 ?k7 ?_; (case k1 => k_asm); (case k2 => k_asm); (case k3 => k_inst); (case k4 => k_is); (case k5 => k_is); (case k6 => k_is); (case k7 => k_get)); k_whole))))); k_steps)))
                      refine Stop.out ?_
                      (try dsimp only)
                      k_dflt (refine' turn_truth TK hR8 hrow ?y9B ?y9F ?y9X ?y9T ?y9N ?y9f ?y9k ?y9d ?y9u J11.led ?y9s ?y9x ?_; (case y9B => k_asm); (case y9F => k_asm); (case y9X => k_asm); (case y9T => k_asm); (case y9N => k_asm); (case y9f => exact rfl); (case y9k => exact rfl); (case y9d => decide); (case y9u => decide); (case y9s => exact fun p hp => hp); (case y9x => exact ⟨TK.pos, by have := TK.has.1; have := TK.pos; omega⟩))
                      intro h12 tk12 F12 N12
                      rename_i o11 _ _ d11
                      generalize hbb : truthF (tsN st (askedF st.c kind ar).1).1 (askedF st.c kind ar).2 row = bb
                      (try dsimp only); (try k_fold)
                      (k_steps; (repeat' ((first | (refine Stop.out (n := 1) ?_; (first | ((k_dflt (refine' comp_open ?y9c ?y9k ?y9n ?_ ?y9s; (case y9c => with_unfolding_all rfl); (case y9k => exact rfl); (case y9n => decide); (case y9s => (intro _; rfl))))))) | (refine Stop.out (n := 2) ?_; (first | ((k_dflt (refine' comp_openA ?y9w ?y9c ?y9k ?y9n ?_ ?y9s; (case y9w => with_unfolding_all rfl); (case y9c => with_unfolding_all rfl); (case y9k => exact rfl); (case y9n => decide); (case y9s => (intro _; rfl))))))) | (refine Stop.out (n := 3) ?_; (first | ((k_dflt (refine' append_n ?y9F ?y9N ?y9U ?y9z ?_; (case y9F => k_asm); (case y9N => k_asm); (case y9U => k_updF); (case y9z => omega)); intro h9q F9q N9q; (try dsimp only at N9q))))) | (refine Stop.out (n := 4) ?_; (first | (((rename Fr _ _ _ _ => lF'q); (with_unfolding_all refine' For_invTF lF'q ?_ ?ks; (case ks => (intro _; rfl))))))) | (refine Stop.out (n := 5) ?_; (first | ((k_dflt (refine' method_inst ?k1 ?k2 ?k3 ?k4 ?k5 ?k6 ?k7 ?_; (case k1 => k_asm); (case k2 => k_asm); (case k3 => k_inst); (case k4 => k_is); (case k5 => k_is); (case k6 => k_is); (case k7 => k_get)); k_whole))))); k_steps)))
                      refine Stop.out ?_
                      rename Fr _ _ _ _ => F13
                      rename News _ _ _ _ => N13
                      refine comp_seq_U (fun i ys nx => nx = _ ∧ ys = ((ar.take i).map fun x => truthF (tsN st (askedF st.c kind ar).1).1 x row).map Value.bool) rfl (by decide) rfl rfl (.inr ⟨na, lst_W hfY⟩) (by rw [sizeLine_eq]; omega) F13 N13 ⟨rfl, rfl⟩ (fun _ _ _ h => .inr ⟨na, by rw [h.1]; exact lst_W hfY⟩) ?_ ?_
                      · rintro i v7 I oI C oC K m₂ h tk E' ys nx hi hv hoC hm2 F9 N9 off ne ⟨rfl, rfl⟩
                        refine opq fun PC hPC => ?_
                        obtain ⟨x, tx, rfl, hx⟩ := hwa.at i v7 hv
                        clear F13 N13
                        (try dsimp only); (try k_fold)
                        (k_steps; (repeat' ((first | (refine Stop.out (n := 1) ?_; (first | ((k_dflt (refine' comp_open ?y9c ?y9k ?y9n ?_ ?y9s; (case y9c => with_unfolding_all rfl); (case y9k => exact rfl); (case y9n => decide); (case y9s => (intro _; rfl))))))) | (refine Stop.out (n := 2) ?_; (first | ((k_dflt (refine' comp_openA ?y9w ?y9c ?y9k ?y9n ?_ ?y9s; (case y9w => with_unfolding_all rfl); (case y9c => with_unfolding_all rfl); (case y9k => exact rfl); (case y9n => decide); (case y9s => (intro _; rfl))))))) | (refine Stop.out (n := 3) ?_; (first | ((k_dflt (refine' append_n ?y9F ?y9N ?y9U ?y9z ?_; (case y9F => k_asm); (case y9N => k_asm); (case y9U => k_updF); (case y9z => omega)); intro h9q F9q N9q; (try dsimp only at N9q))))) | (refine Stop.out (n := 4) ?_; (first | (((rename Fr _ _ _ _ => lF'q); (with_unfolding_all refine' For_invTF lF'q ?_ ?ks; (case ks => (intro _; rfl))))))) | (refine Stop.out (n := 5) ?_; (first | ((k_dflt (refine' method_inst ?k1 ?k2 ?k3 ?k4 ?k5 ?k6 ?k7 ?_; (case k1 => k_asm); (case k2 => k_asm); (case k3 => k_inst); (case k4 => k_is); (case k5 => k_is); (case k6 => k_is); (case k7 => k_get)); k_whole))))); k_steps)))
                        refine Stop.out ?_
                        (try dsimp only)
                        k_dflt (refine' turn_truth TK hR8 hrow ?y9B ?y9F ?y9X ?y9T ?y9N ?y9f ?y9k ?y9d ?y9u J11.led ?y9s ?y9x ?_; (case y9B => k_asm); (case y9F => k_asm); (case y9X => k_asm); (case y9T => k_asm); (case y9N => k_asm); (case y9f => exact rfl); (case y9k => exact rfl); (case y9d => decide); (case y9u => decide); (case y9s => exact fun p hp => .tail _ (.tail _ (.tail _ hp))); (case y9x => exact TK.inn x (List.mem_of_getElem? hx)))
                        intro h14 tk14 F14 N14
                        (try dsimp only); (try k_fold)
                        (k_steps; (repeat' ((first | (refine Stop.out (n := 1) ?_; (first | ((k_dflt (refine' comp_open ?y9c ?y9k ?y9n ?_ ?y9s; (case y9c => with_unfolding_all rfl); (case y9k => exact rfl); (case y9n => decide); (case y9s => (intro _; rfl))))))) | (refine Stop.out (n := 2) ?_; (first | ((k_dflt (refine' comp_openA ?y9w ?y9c ?y9k ?y9n ?_ ?y9s; (case y9w => with_unfolding_all rfl); (case y9c => with_unfolding_all rfl); (case y9k => exact rfl); (case y9n => decide); (case y9s => (intro _; rfl))))))) | (refine Stop.out (n := 3) ?_; (first | ((k_dflt (refine' append_n ?y9F ?y9N ?y9U ?y9z ?_; (case y9F => k_asm); (case y9N => k_asm); (case y9U => k_updF); (case y9z => omega)); intro h9q F9q N9q; (try dsimp only at N9q))))) | (refine Stop.out (n := 4) ?_; (first | (((rename Fr _ _ _ _ => lF'q); (with_unfolding_all refine' For_invTF lF'q ?_ ?ks; (case ks => (intro _; rfl))))))) | (refine Stop.out (n := 5) ?_; (first | ((k_dflt (refine' method_inst ?k1 ?k2 ?k3 ?k4 ?k5 ?k6 ?k7 ?_; (case k1 => k_asm); (case k2 => k_asm); (case k3 => k_inst); (case k4 => k_is); (case k5 => k_is); (case k6 => k_is); (case k7 => k_get)); k_whole))))); k_steps)))
                        exact hPC _ _ (TEnd.intro F14 N14 off ⟨rfl, by rw [List.take_add_one, hx]; simp⟩)
                      · rintro K h tk ys nx ⟨rfl, rfl⟩ F9 N9 o1
                        clear F13 N13
                        rw [List.take_of_length_le (by omega)] at N9
                        (try dsimp only); (try k_fold)
                        (k_steps; (repeat' ((first | (refine Stop.out (n := 1) ?_; (first | ((k_dflt (refine' comp_open ?y9c ?y9k ?y9n ?_ ?y9s; (case y9c => with_unfolding_all rfl); (case y9k => exact rfl); (case y9n => decide); (case y9s => (intro _; rfl))))))) | (refine Stop.out (n := 2) ?_; (first | ((k_dflt (refine' comp_openA ?y9w ?y9c ?y9k ?y9n ?_ ?y9s; (case y9w => with_unfolding_all rfl); (case y9c => with_unfolding_all rfl); (case y9k => exact rfl); (case y9n => decide); (case y9s => (intro _; rfl))))))) | (refine Stop.out (n := 3) ?_; (first | ((k_dflt (refine' append_n ?y9F ?y9N ?y9U ?y9z ?_; (case y9F => k_asm); (case y9N => k_asm); (case y9U => k_updF); (case y9z => omega)); intro h9q F9q N9q; (try dsimp only at N9q))))) | (refine Stop.out (n := 4) ?_; (first | (((rename Fr _ _ _ _ => lF'q); (with_unfolding_all refine' For_invTF lF'q ?_ ?ks; (case ks => (intro _; rfl))))))) | (refine Stop.out (n := 5) ?_; (first | ((k_dflt (refine' method_inst ?k1 ?k2 ?k3 ?k4 ?k5 ?k6 ?k7 ?_; (case k1 => k_asm); (case k2 => k_asm); (case k3 => k_inst); (case k4 => k_is); (case k5 => k_is); (case k6 => k_is); (case k7 => k_get)); k_whole))))); k_steps)))
                        refine Stop.out ?_
                        (try dsimp only)
                        k_dflt (refine' law_said (bs := ar.map fun x => truthF (tsN st (askedF st.c kind ar).1).1 x row) ?y9B ?y9F ?y9X ?y9T ?y9N ?y9f ?y9k ?y9d ?y9u hki0 hki8 (.head _) ?y91 ?y92 ?y93 ?_; (case y9B => k_asm); (case y9F => k_asm); (case y9X => k_asm); (case y9T => k_asm); (case y9N => k_asm); (case y9f => exact rfl); (case y9k => exact rfl); (case y9d => decide); (case y9u => decide); (case y91 => (rw [List.length_map]; omega)); (case y92 => (rw [List.length_map]; exact hargs.two)); (case y93 => (rw [List.length_map]; exact hargs.three)))
                        intro h15 tk15 F15 N15
                        rw [← TK.truth row hrow, hbb]
                        (try dsimp only); (try k_fold)
                        (k_steps; (repeat' ((first | (refine Stop.out (n := 1) ?_; (first | ((k_dflt (refine' comp_open ?y9c ?y9k ?y9n ?_ ?y9s; (case y9c => with_unfolding_all rfl); (case y9k => exact rfl); (case y9n => decide); (case y9s => (intro _; rfl))))))) | (refine Stop.out (n := 2) ?_; (first | ((k_dflt (refine' comp_openA ?y9w ?y9c ?y9k ?y9n ?_ ?y9s; (case y9w => with_unfolding_all rfl); (case y9c => with_unfolding_all rfl); (case y9k => exact rfl); (case y9n => decide); (case y9s => (intro _; rfl))))))) | (refine Stop.out (n := 3) ?_; (first | ((k_dflt (refine' append_n ?y9F ?y9N ?y9U ?y9z ?_; (case y9F => k_asm); (case y9N => k_asm); (case y9U => k_updF); (case y9z => omega)); intro h9q F9q N9q; (try dsimp only at N9q))))) | (refine Stop.out (n := 4) ?_; (first | (((rename Fr _ _ _ _ => lF'q); (with_unfolding_all refine' For_invTF lF'q ?_ ?ks; (case ks => (intro _; rfl))))))) | (refine Stop.out (n := 5) ?_; (first | ((k_dflt (refine' method_inst ?k1 ?k2 ?k3 ?k4 ?k5 ?k6 ?k7 ?_; (case k1 => k_asm); (case k2 => k_asm); (case k3 => k_inst); (case k4 => k_is); (case k5 => k_is); (case k6 => k_is); (case k7 => k_get)); k_whole))))); k_steps)))
                        all_goals try (rename_i ha; simp at ha; done)
                        exact hPR _ _ (next_end F15 N15 (fun p hp => .tail _ (lst_sub T11.v p hp)) (fun p hp => .tail _ (lst_W (T11.o p hp))) hoff' ⟨_, _, d11, rfl, rfl, rfl, rfl, rfl, rfl, rfl, rfl⟩)
                      --}S8d
                    · rintro m₁ nx h tk ⟨cr'', v', hcr'', eb1, eb2, eb3, eb4, eb5, eb6, eb7, eb8⟩ F₁ N₁
                      clear F10 N10 R10
                      have F₁ := see (see (see (see (see (see (see (see F₁ "feed" eb1) "inputs" eb2) "rows" eb3) "seen" eb4) "some" eb5) "kind" eb6) "args" eb7) "g" eb8
                      --{S8e
                      have hbd := TK.bound
                      have hal2 := again_len kind ar
                      have hfX : (fl, PySem.W.listOf (List.toArray wa) na) ∈ add9 ++ (add7 ++ (fl, PySem.W.listOf (List.toArray wa) na) :: X) := List.mem_append_right _ (List.mem_append_right _ (.head _))
                      (try dsimp only); (try k_fold)
                      (k_steps; (repeat' ((first | (refine Stop.out (n := 1) ?_; (first | ((k_dflt (refine' comp_open ?y9c ?y9k ?y9n ?_ ?y9s; (case y9c => with_unfolding_all rfl); (case y9k => exact rfl); (case y9n => decide); (case y9s => (intro _; rfl))))))) | (refine Stop.out (n := 2) ?_; (first | ((k_dflt (refine' comp_openA ?y9w ?y9c ?y9k ?y9n ?_ ?y9s; (case y9w => with_unfolding_all rfl); (case y9c => with_unfolding_all rfl); (case y9k => exact rfl); (case y9n => decide); (case y9s => (intro _; rfl))))))) | (refine Stop.out (n := 3) ?_; (first | ((k_dflt (refine' append_n ?y9F ?y9N ?y9U ?y9z ?_; (case y9F => k_asm); (case y9N => k_asm); (case y9U => k_updF); (case y9z => omega)); intro h9q F9q N9q; (try dsimp only at N9q))))) | (refine Stop.out (n := 4) ?_; (first | (((rename Fr _ _ _ _ => lF'q); (with_unfolding_all refine' For_invTF lF'q ?_ ?ks; (case ks => (intro _; rfl))))))) | (refine Stop.out (n := 5) ?_; (first | ((k_dflt (refine' method_inst ?k1 ?k2 ?k3 ?k4 ?k5 ?k6 ?k7 ?_; (case k1 => k_asm); (case k2 => k_asm); (case k3 => k_inst); (case k4 => k_is); (case k5 => k_is); (case k6 => k_is); (case k7 => k_get)); k_whole))))); k_steps)))
                      refine Stop.out ?_
                      (try dsimp only)
                      k_dflt (refine' law_size ?y9B ?y9F ?y9X ?y9T ?y9N ?y9f ?y9k ?y9d ?y9u J9.led TK.small (by decide) ?_; (case y9B => k_asm); (case y9F => k_asm); (case y9X => k_asm); (case y9T => k_asm); (case y9N => k_asm); (case y9f => exact rfl); (case y9k => exact rfl); (case y9d => decide); (case y9u => decide))
                      intro t20 h20 tk20 F20 N20
                      (try dsimp only); (try k_fold)
                      (k_steps; (repeat' ((first | (refine Stop.out (n := 1) ?_; (first | ((k_dflt (refine' comp_open ?y9c ?y9k ?y9n ?_ ?y9s; (case y9c => with_unfolding_all rfl); (case y9k => exact rfl); (case y9n => decide); (case y9s => (intro _; rfl))))))) | (refine Stop.out (n := 2) ?_; (first | ((k_dflt (refine' comp_openA ?y9w ?y9c ?y9k ?y9n ?_ ?y9s; (case y9w => with_unfolding_all rfl); (case y9c => with_unfolding_all rfl); (case y9k => exact rfl); (case y9n => decide); (case y9s => (intro _; rfl))))))) | (refine Stop.out (n := 3) ?_; (first | ((k_dflt (refine' append_n ?y9F ?y9N ?y9U ?y9z ?_; (case y9F => k_asm); (case y9N => k_asm); (case y9U => k_updF); (case y9z => omega)); intro h9q F9q N9q; (try dsimp only at N9q))))) | (refine Stop.out (n := 4) ?_; (first | (((rename Fr _ _ _ _ => lF'q); (with_unfolding_all refine' For_invTF lF'q ?_ ?ks; (case ks => (intro _; rfl))))))) | (refine Stop.out (n := 5) ?_; (first | ((k_dflt (refine' method_inst ?k1 ?k2 ?k3 ?k4 ?k5 ?k6 ?k7 ?_; (case k1 => k_asm); (case k2 => k_asm); (case k3 => k_inst); (case k4 => k_is); (case k5 => k_is); (case k6 => k_is); (case k7 => k_get)); k_whole))))); k_steps)))
                      refine Stop.out ?_
                      (try dsimp only)
                      k_dflt (refine' law_settled ?y9B ?y9F ?y9X ?y9T ?y9N ?y9f ?y9k ?y9d ?y9u J9.led TK.small (by decide) hki0 hki8 hfX ⟨rfl, rfl⟩ hwa hargs.len hargs.two hargs.three TK.has hbd ?y91 ?y92 ?_; (case y9B => k_asm); (case y9F => k_asm); (case y9X => k_asm); (case y9T => k_asm); (case y9N => k_asm); (case y9f => exact rfl); (case y9k => exact rfl); (case y9d => decide); (case y9u => decide); (case y91 => (dsimp only; rw [TK.settled])); (case y92 => (dsimp only; rw [TK.settled])))
                      intro h21 tk21 ok21 op21 on21 add21 F21 N21 L21 hne21
                      have J21 := J9.of L21 (fun _ h => List.mem_append_right _ h)
                      have T21 := T9.net hne21
                      (try dsimp only at J21)
                      clear L21
                      replace hmN := List.mem_append_right add21 hmN
                      replace hmT := List.mem_append_right add21 hmT
                      replace hmI := List.mem_append_right add21 hmI
                      replace hmD := List.mem_append_right add21 hmD
                      (try dsimp only); (try k_fold)
                      (k_steps; (repeat' ((first | (refine Stop.out (n := 1) ?_; (first | ((k_dflt (refine' comp_open ?y9c ?y9k ?y9n ?_ ?y9s; (case y9c => with_unfolding_all rfl); (case y9k => exact rfl); (case y9n => decide); (case y9s => (intro _; rfl))))))) | (refine Stop.out (n := 2) ?_; (first | ((k_dflt (refine' comp_openA ?y9w ?y9c ?y9k ?y9n ?_ ?y9s; (case y9w => with_unfolding_all rfl); (case y9c => with_unfolding_all rfl); (case y9k => exact rfl); (case y9n => decide); (case y9s => (intro _; rfl))))))) | (refine Stop.out (n := 3) ?_; (first | ((k_dflt (refine' append_n ?y9F ?y9N ?y9U ?y9z ?_; (case y9F => k_asm); (case y9N => k_asm); (case y9U => k_updF); (case y9z => omega)); intro h9q F9q N9q; (try dsimp only at N9q))))) | (refine Stop.out (n := 4) ?_; (first | (((rename Fr _ _ _ _ => lF'q); (with_unfolding_all refine' For_invTF lF'q ?_ ?ks; (case ks => (intro _; rfl))))))) | (refine Stop.out (n := 5) ?_; (first | ((k_dflt (refine' method_inst ?k1 ?k2 ?k3 ?k4 ?k5 ?k6 ?k7 ?_; (case k1 => k_asm); (case k2 => k_asm); (case k3 => k_inst); (case k4 => k_is); (case k5 => k_is); (case k6 => k_is); (case k7 => k_get)); k_whole))))); k_steps)))
                      refine Stop.out ?_
                      (try dsimp only)
                      k_dflt (refine' law_again ?y9B ?y9F ?y9X ?y9T ?y9N ?y9f ?y9k ?y9d ?y9u J21.led hki0 hki8 (List.mem_append_right _ hfX) ⟨rfl, rfl⟩ hwa (by omega) ?_; (case y9B => k_asm); (case y9F => k_asm); (case y9X => k_asm); (case y9T => k_asm); (case y9N => k_asm); (case y9f => exact rfl); (case y9k => exact rfl); (case y9d => decide); (case y9u => decide))
                      intro l22 ol22 ws22 n22 h22 tk22 add22 F22 N22 L22 hne22 hm22 hol22 hws22
                      have J22 := J21.of L22 (fun _ h => List.mem_append_right _ h)
                      have T22 := T21.add hne22
                      (try dsimp only at J22)
                      clear L22
                      replace hmN := List.mem_append_right add22 hmN
                      replace hmT := List.mem_append_right add22 hmT
                      replace hmI := List.mem_append_right add22 hmI
                      replace hmD := List.mem_append_right add22 hmD
                      (try dsimp only); (try k_fold)
                      (k_steps; (repeat' ((first | (refine Stop.out (n := 1) ?_; (first | ((k_dflt (refine' comp_open ?y9c ?y9k ?y9n ?_ ?y9s; (case y9c => with_unfolding_all rfl); (case y9k => exact rfl); (case y9n => decide); (case y9s => (intro _; rfl))))))) | (refine Stop.out (n := 2) ?_; (first | ((k_dflt (refine' comp_openA ?y9w ?y9c ?y9k ?y9n ?_ ?y9s; (case y9w => with_unfolding_all rfl); (case y9c => with_unfolding_all rfl); (case y9k => exact rfl); (case y9n => decide); (case y9s => (intro _; rfl))))))) | (refine Stop.out (n := 3) ?_; (first | ((k_dflt (refine' append_n ?y9F ?y9N ?y9U ?y9z ?_; (case y9F => k_asm); (case y9N => k_asm); (case y9U => k_updF); (case y9z => omega)); intro h9q F9q N9q; (try dsimp only at N9q))))) | (refine Stop.out (n := 4) ?_; (first | (((rename Fr _ _ _ _ => lF'q); (with_unfolding_all refine' For_invTF lF'q ?_ ?ks; (case ks => (intro _; rfl))))))) | (refine Stop.out (n := 5) ?_; (first | ((k_dflt (refine' method_inst ?k1 ?k2 ?k3 ?k4 ?k5 ?k6 ?k7 ?_; (case k1 => k_asm); (case k2 => k_asm); (case k3 => k_inst); (case k4 => k_is); (case k5 => k_is); (case k6 => k_is); (case k7 => k_get)); k_whole))))); k_steps)))
                      refine Stop.out ?_
                      (try dsimp only)
                      k_dflt (refine' law_asked ?y9B ?y9F ?y9X ?y9T ?y9N ?y9f ?y9k ?y9d ?y9u J22.led TK.small (by decide) hki0 hki8 hm22 hol22 hws22 (by omega) ?y91 ?y92 ?_; (case y9B => k_asm); (case y9F => k_asm); (case y9X => k_asm); (case y9T => k_asm); (case y9N => k_asm); (case y9f => exact rfl); (case y9k => exact rfl); (case y9d => decide); (case y9u => decide); (case y91 => (intro h; have := hargs.two h; have := hal2.2 h; omega)); (case y92 => (intro h; have := hargs.three h; have := hal2.2 (by omega); omega)))
                      intro t23 h23 tk23 ok23 op23 on23 add23 F23 N23 L23 hne23
                      (try dsimp only at L23)
                      rw [TK.again] at L23 ⊢
                      have J23 := J22.of L23 (fun _ h => List.mem_append_right _ h)
                      have T23 := T22.net hne23
                      clear L23
                      replace hmN := List.mem_append_right add23 hmN
                      replace hmT := List.mem_append_right add23 hmT
                      replace hmI := List.mem_append_right add23 hmI
                      replace hmD := List.mem_append_right add23 hmD
                      (try dsimp only); (try k_fold)
                      (k_steps; (repeat' ((first | (refine Stop.out (n := 1) ?_; (first | ((k_dflt (refine' comp_open ?y9c ?y9k ?y9n ?_ ?y9s; (case y9c => with_unfolding_all rfl); (case y9k => exact rfl); (case y9n => decide); (case y9s => (intro _; rfl))))))) | (refine Stop.out (n := 2) ?_; (first | ((k_dflt (refine' comp_openA ?y9w ?y9c ?y9k ?y9n ?_ ?y9s; (case y9w => with_unfolding_all rfl); (case y9c => with_unfolding_all rfl); (case y9k => exact rfl); (case y9n => decide); (case y9s => (intro _; rfl))))))) | (refine Stop.out (n := 3) ?_; (first | ((k_dflt (refine' append_n ?y9F ?y9N ?y9U ?y9z ?_; (case y9F => k_asm); (case y9N => k_asm); (case y9U => k_updF); (case y9z => omega)); intro h9q F9q N9q; (try dsimp only at N9q))))) | (refine Stop.out (n := 4) ?_; (first | (((rename Fr _ _ _ _ => lF'q); (with_unfolding_all refine' For_invTF lF'q ?_ ?ks; (case ks => (intro _; rfl))))))) | (refine Stop.out (n := 5) ?_; (first | ((k_dflt (refine' method_inst ?k1 ?k2 ?k3 ?k4 ?k5 ?k6 ?k7 ?_; (case k1 => k_asm); (case k2 => k_asm); (case k3 => k_inst); (case k4 => k_is); (case k5 => k_is); (case k6 => k_is); (case k7 => k_get)); k_whole))))); k_steps)))
                      all_goals try (rename_i ha; exact absurd rfl ha)
                      refine Stop.out ?_
                      (try dsimp only)
                      k_dflt (refine' law_size ?y9B ?y9F ?y9X ?y9T ?y9N ?y9f ?y9k ?y9d ?y9u J23.led TK.small (by decide) ?_; (case y9B => k_asm); (case y9F => k_asm); (case y9X => k_asm); (case y9T => k_asm); (case y9N => k_asm); (case y9f => exact rfl); (case y9k => exact rfl); (case y9d => decide); (case y9u => decide))
                      intro t24 h24 tk24 F24 N24
                      obtain ⟨ssv, ns8, hoo, hssv⟩ := J23.led.so
                      have hsvl := hssv.length
                      (try dsimp only at hssv)
                      (try dsimp only at hsvl)
                      subst hoo
                      have hAp := apart J23.led.nd
                      have hOf := J23.led.off
                      have hWV : ∀ p ∈ W, p ∈ add23 ++ (add22 ++ (add21 ++ (add9 ++ (add7 ++ (fl, PySem.W.listOf (List.toArray wa) na) :: W)))) := fun p hp => List.mem_append_right _ (List.mem_append_right _ (List.mem_append_right _ (List.mem_append_right _ (List.mem_append_right _ (.tail _ hp)))))
                      (try dsimp only); (try k_fold)
                      (k_steps; (repeat' ((first | (refine Stop.out (n := 1) ?_; (first | ((k_dflt (refine' comp_open ?y9c ?y9k ?y9n ?_ ?y9s; (case y9c => with_unfolding_all rfl); (case y9k => exact rfl); (case y9n => decide); (case y9s => (intro _; rfl))))))) | (refine Stop.out (n := 2) ?_; (first | ((k_dflt (refine' comp_openA ?y9w ?y9c ?y9k ?y9n ?_ ?y9s; (case y9w => with_unfolding_all rfl); (case y9c => with_unfolding_all rfl); (case y9k => exact rfl); (case y9n => decide); (case y9s => (intro _; rfl))))))) | (refine Stop.out (n := 3) ?_; (first | ((k_dflt (refine' append_n ?y9F ?y9N ?y9U ?y9z ?_; (case y9F => k_asm); (case y9N => k_asm); (case y9U => k_updF); (case y9z => omega)); intro h9q F9q N9q; (try dsimp only at N9q))))) | (refine Stop.out (n := 4) ?_; (first | (((rename Fr _ _ _ _ => lF'q); (with_unfolding_all refine' For_invTF lF'q ?_ ?ks; (case ks => (intro _; rfl))))))) | (refine Stop.out (n := 5) ?_; (first | ((k_dflt (refine' method_inst ?k1 ?k2 ?k3 ?k4 ?k5 ?k6 ?k7 ?_; (case k1 => k_asm); (case k2 => k_asm); (case k3 => k_inst); (case k4 => k_is); (case k5 => k_is); (case k6 => k_is); (case k7 => k_get)); k_whole))))); k_steps)))
                      all_goals try (rename_i ha; exact absurd rfl ha)
                      refine Stop.out ?_
                      by_cases hin : ab (askedF st.c kind ar).2 ∈ st.ss
                      · rw [if_pos hin] at I9
                        k_dflt (refine' not_some (a := ⟨a, tb, sb, so, d, s₁.heap.objs.size + 1 + 1 + 1 + 1⟩) ?y9N hssv ?_; (case y9N => exact N24))
                        have hin' : decide ((if (askedF st.c kind ar).2 < 0 then -(askedF st.c kind ar).2 else (askedF st.c kind ar).2) ∉ st.ss) = false := decide_eq_false fun h => h hin
                        (try dsimp only)
                        rw [hin']
                        (try dsimp only); (try k_fold)
                        (k_steps; (repeat' ((first | (refine Stop.out (n := 1) ?_; (first | ((k_dflt (refine' comp_open ?y9c ?y9k ?y9n ?_ ?y9s; (case y9c => with_unfolding_all rfl); (case y9k => exact rfl); (case y9n => decide); (case y9s => (intro _; rfl))))))) | (refine Stop.out (n := 2) ?_; (first | ((k_dflt (refine' comp_openA ?y9w ?y9c ?y9k ?y9n ?_ ?y9s; (case y9w => with_unfolding_all rfl); (case y9c => with_unfolding_all rfl); (case y9k => exact rfl); (case y9n => decide); (case y9s => (intro _; rfl))))))) | (refine Stop.out (n := 3) ?_; (first | ((k_dflt (refine' append_n ?y9F ?y9N ?y9U ?y9z ?_; (case y9F => k_asm); (case y9N => k_asm); (case y9U => k_updF); (case y9z => omega)); intro h9q F9q N9q; (try dsimp only at N9q))))) | (refine Stop.out (n := 4) ?_; (first | (((rename Fr _ _ _ _ => lF'q); (with_unfolding_all refine' For_invTF lF'q ?_ ?ks; (case ks => (intro _; rfl))))))) | (refine Stop.out (n := 5) ?_; (first | ((k_dflt (refine' method_inst ?k1 ?k2 ?k3 ?k4 ?k5 ?k6 ?k7 ?_; (case k1 => k_asm); (case k2 => k_asm); (case k3 => k_inst); (case k4 => k_is); (case k5 => k_is); (case k6 => k_is); (case k7 => k_get)); k_whole))))); k_steps)))
                        refine hPL _ _ (next_end F24 N24 (lst_sub T23.v) (fun p hp => lst_W (T23.o p hp)) (T23.off J23) ⟨_, _, _, _, _, _, _, _, _, _, _, cr'', v', hcr'', J23.shrink J0 T23 hWV, ?_, hWV _ hil0, rfl, rfl, rfl, rfl, rfl⟩)
                        exact I9
                      · rw [if_neg hin] at I9
                        k_dflt (refine' not_some (a := ⟨a, tb, sb, so, d, s₁.heap.objs.size + 1 + 1 + 1 + 1⟩) ?y9N hssv ?_; (case y9N => exact N24))
                        have hin' : decide ((if (askedF st.c kind ar).2 < 0 then -(askedF st.c kind ar).2 else (askedF st.c kind ar).2) ∉ st.ss) = true := decide_eq_true hin
                        (try dsimp only)
                        rw [hin']
                        (try dsimp only); (try k_fold)
                        (k_steps; (repeat' ((first | (refine Stop.out (n := 1) ?_; (first | ((k_dflt (refine' comp_open ?y9c ?y9k ?y9n ?_ ?y9s; (case y9c => with_unfolding_all rfl); (case y9k => exact rfl); (case y9n => decide); (case y9s => (intro _; rfl))))))) | (refine Stop.out (n := 2) ?_; (first | ((k_dflt (refine' comp_openA ?y9w ?y9c ?y9k ?y9n ?_ ?y9s; (case y9w => with_unfolding_all rfl); (case y9c => with_unfolding_all rfl); (case y9k => exact rfl); (case y9n => decide); (case y9s => (intro _; rfl))))))) | (refine Stop.out (n := 3) ?_; (first | ((k_dflt (refine' append_n ?y9F ?y9N ?y9U ?y9z ?_; (case y9F => k_asm); (case y9N => k_asm); (case y9U => k_updF); (case y9z => omega)); intro h9q F9q N9q; (try dsimp only at N9q))))) | (refine Stop.out (n := 4) ?_; (first | (((rename Fr _ _ _ _ => lF'q); (with_unfolding_all refine' For_invTF lF'q ?_ ?ks; (case ks => (intro _; rfl))))))) | (refine Stop.out (n := 5) ?_; (first | ((k_dflt (refine' method_inst ?k1 ?k2 ?k3 ?k4 ?k5 ?k6 ?k7 ?_; (case k1 => k_asm); (case k2 => k_asm); (case k3 => k_inst); (case k4 => k_is); (case k5 => k_is); (case k6 => k_is); (case k7 => k_get)); k_whole))))); k_steps)))
                        rename Fr _ _ _ _ => F25
                        rename News _ _ _ _ => N25
                        refine hPL _ _ (next_end F25 N25 (lst_sub T23.v) (fun p hp => lst_W (T23.o p hp)) (T23.off (J23.grow_some hssv)) ⟨_, _, _, _, _, _, _, _, _, _, _, cr'', v', hcr'', (J23.grow_some hssv).shrink J0 T23 hWV, ?_, hWV _ hil0, rfl, rfl, rfl, rfl, rfl⟩)
                        exact I9
                      --}S8e
                    --}S8c
                  · rintro m₁ nx h tk ⟨st, W, tl, rl, ot, os, oo, od, ok, op, on, cr', v, hcr, J0, I0, hil0, em1, em2, em3, em4, em5⟩ F₁ N₁
                    exact hPP _ _ (Post.mk ⟨_, _, _, st, W, tl, rl, ot, os, oo, od, ok, op, on, cr', F₁, em2, N₁, J0, I0, hil0⟩)
                --}S8
                · rintro s₂ ⟨h, tk, m, st, W, tl, rl, ot, os, oo, od, ok, op, on, cr', F8, mi, N8, J8, I8, hil8⟩
                  clear F7 N7 J7
                  have F8 := see F8 "inputs" mi
                  --{S9
                  obtain ⟨oN, hmN, hN⟩ := J8.net
                  have hmI := J8.led.nN.inst
                  obtain ⟨z1, z2, z3, z4, z5, z6, z7, hmD⟩ := J8.led.nN.dict
                  have hivl := hivs.length
                  have hinl : (insI many.toNat).length = many.toNat := by simp [insI]
                  have hsm := I8.smallc (by decide)
                  (try dsimp only); (try k_fold)
                  (k_steps; (repeat' ((first | (refine Stop.out (n := 1) ?_; (first | ((k_dflt (refine' comp_open ?y9c ?y9k ?y9n ?_ ?y9s; (case y9c => with_unfolding_all rfl); (case y9k => exact rfl); (case y9n => decide); (case y9s => (intro _; rfl))))))) | (refine Stop.out (n := 2) ?_; (first | ((k_dflt (refine' comp_openA ?y9w ?y9c ?y9k ?y9n ?_ ?y9s; (case y9w => with_unfolding_all rfl); (case y9c => with_unfolding_all rfl); (case y9k => exact rfl); (case y9n => decide); (case y9s => (intro _; rfl))))))) | (refine Stop.out (n := 3) ?_; (first | ((k_dflt (refine' append_n ?y9F ?y9N ?y9U ?y9z ?_; (case y9F => k_asm); (case y9N => k_asm); (case y9U => k_updF); (case y9z => omega)); intro h9q F9q N9q; (try dsimp only at N9q))))) | (refine Stop.out (n := 4) ?_; (first | (((rename Fr _ _ _ _ => lF'q); (with_unfolding_all refine' For_invTF lF'q ?_ ?ks; (case ks => (intro _; rfl))))))) | (refine Stop.out (n := 5) ?_; (first | ((k_dflt (refine' method_inst ?k1 ?k2 ?k3 ?k4 ?k5 ?k6 ?k7 ?_; (case k1 => k_asm); (case k2 => k_asm); (case k3 => k_inst); (case k4 => k_is); (case k5 => k_is); (case k6 => k_is); (case k7 => k_get)); k_whole))))); k_steps)))
                  refine Stop.out ?_
                  rename Fr _ _ _ _ => F9
                  rename News _ _ _ _ => N9
                  refine comp_seq_T (vs := ivs) (fun i ys nx => nx = _ ∧ ys = []) rfl (by decide) rfl rfl (.inr ⟨ivs.length, lst_W hil8⟩) (by rw [sizeLine_eq]; omega) F9 N9 ⟨rfl, rfl⟩ (fun _ _ _ h => .inr ⟨ivs.length, by rw [h.1]; exact lst_W hil8⟩) ?_ ?_
                  · rintro i v I oI C oC K m₂ h tk E' ys nx hin hv hoC hx1 F11 N11 off ne ⟨rfl, rfl⟩
                    refine opqT fun PC PC0 hPC hPC0 => ?_
                    obtain ⟨x, tx, rfl, hx⟩ := hivs.at i v hv
                    clear F9 N9
                    obtain ⟨g1, hg1, hg2, hg3⟩ : ∃ g1 : Nat, x = (g1 : Int) ∧ 2 ≤ g1 ∧ g1 < many.toNat + 2 := by
                      have hi9 : i < many.toNat := by omega
                      unfold insI at hx
                      rw [List.getElem?_map, List.getElem?_range hi9] at hx
                      have h9 : 2 + (i : Int) = x := Option.some.inj hx
                      exact ⟨2 + i, by omega, by omega, by omega⟩
                    subst hg1
                    obtain ⟨hk1, hp1⟩ := I8.good.inp g1 hg2 hg3
                    have ha1 : (ab (g1 : Int)).toNat = g1 := by unfold ab; split <;> omega
                    have ha2 : (ab (0 - (g1 : Int))).toNat = g1 := by rw [ab_neg]; exact ha1
                    (try dsimp only); (try k_fold)
                    (k_steps; (repeat' ((first | (refine Stop.out (n := 1) ?_; (first | ((k_dflt (refine' comp_open ?y9c ?y9k ?y9n ?_ ?y9s; (case y9c => with_unfolding_all rfl); (case y9k => exact rfl); (case y9n => decide); (case y9s => (intro _; rfl))))))) | (refine Stop.out (n := 2) ?_; (first | ((k_dflt (refine' comp_openA ?y9w ?y9c ?y9k ?y9n ?_ ?y9s; (case y9w => with_unfolding_all rfl); (case y9c => with_unfolding_all rfl); (case y9k => exact rfl); (case y9n => decide); (case y9s => (intro _; rfl))))))) | (refine Stop.out (n := 3) ?_; (first | ((k_dflt (refine' append_n ?y9F ?y9N ?y9U ?y9z ?_; (case y9F => k_asm); (case y9N => k_asm); (case y9U => k_updF); (case y9z => omega)); intro h9q F9q N9q; (try dsimp only at N9q))))) | (refine Stop.out (n := 4) ?_; (first | (((rename Fr _ _ _ _ => lF'q); (with_unfolding_all refine' For_invTF lF'q ?_ ?ks; (case ks => (intro _; rfl))))))) | (refine Stop.out (n := 5) ?_; (first | ((k_dflt (refine' method_inst ?k1 ?k2 ?k3 ?k4 ?k5 ?k6 ?k7 ?_; (case k1 => k_asm); (case k2 => k_asm); (case k3 => k_inst); (case k4 => k_is); (case k5 => k_is); (case k6 => k_is); (case k7 => k_get)); k_whole))))); k_steps)))
                    refine Stop.out ?_
                    (try dsimp only)
                    k_dflt (refine' led_kind ?y9B ?y9F ?y9X ?y9T ?y9N ?y9f ?y9k ?y9d ?y9u J8.led ?y9s hsm (by decide) ?y91 ?y92 ?y9x ?_; (case y9B => k_asm); (case y9F => k_asm); (case y9X => k_asm); (case y9T => k_asm); (case y9N => k_asm); (case y9f => exact rfl); (case y9k => exact rfl); (case y9d => decide); (case y9u => decide); (case y9s => exact fun p hp => .tail _ (.tail _ (.tail _ hp))); (case y91 => omega); (case y92 => omega); (case y9x => (rw [ha1]; exact hk1)))
                    intro t12 h12 tk12 F12 N12
                    (try dsimp only); (try k_fold)
                    (k_steps; (repeat' ((first | (refine Stop.out (n := 1) ?_; (first | ((k_dflt (refine' comp_open ?y9c ?y9k ?y9n ?_ ?y9s; (case y9c => with_unfolding_all rfl); (case y9k => exact rfl); (case y9n => decide); (case y9s => (intro _; rfl))))))) | (refine Stop.out (n := 2) ?_; (first | ((k_dflt (refine' comp_openA ?y9w ?y9c ?y9k ?y9n ?_ ?y9s; (case y9w => with_unfolding_all rfl); (case y9c => with_unfolding_all rfl); (case y9k => exact rfl); (case y9n => decide); (case y9s => (intro _; rfl))))))) | (refine Stop.out (n := 3) ?_; (first | ((k_dflt (refine' append_n ?y9F ?y9N ?y9U ?y9z ?_; (case y9F => k_asm); (case y9N => k_asm); (case y9U => k_updF); (case y9z => omega)); intro h9q F9q N9q; (try dsimp only at N9q))))) | (refine Stop.out (n := 4) ?_; (first | (((rename Fr _ _ _ _ => lF'q); (with_unfolding_all refine' For_invTF lF'q ?_ ?ks; (case ks => (intro _; rfl))))))) | (refine Stop.out (n := 5) ?_; (first | ((k_dflt (refine' method_inst ?k1 ?k2 ?k3 ?k4 ?k5 ?k6 ?k7 ?_; (case k1 => k_asm); (case k2 => k_asm); (case k3 => k_inst); (case k4 => k_is); (case k5 => k_is); (case k6 => k_is); (case k7 => k_get)); k_whole))))); k_steps)))
                    refine Stop.out ?_
                    (try dsimp only)
                    k_dflt (refine' led_parts ?y9B ?y9F ?y9X ?y9T ?y9N ?y9f ?y9k ?y9d ?y9u J8.led ?y9s hsm (by decide) ?y91 ?y92 ?y9x ?_; (case y9B => k_asm); (case y9F => k_asm); (case y9X => k_asm); (case y9T => k_asm); (case y9N => k_asm); (case y9f => exact rfl); (case y9k => exact rfl); (case y9d => decide); (case y9u => decide); (case y9s => exact fun p hp => .tail _ (.tail _ (.tail _ hp))); (case y91 => omega); (case y92 => omega); (case y9x => (rw [ha2]; exact hp1)))
                    intro t13 o13 h13 tk13 F13 N13 hm13 ho13
                    (try dsimp only); (try k_fold)
                    (k_steps; (repeat' ((first | (refine Stop.out (n := 1) ?_; (first | ((k_dflt (refine' comp_open ?y9c ?y9k ?y9n ?_ ?y9s; (case y9c => with_unfolding_all rfl); (case y9k => exact rfl); (case y9n => decide); (case y9s => (intro _; rfl))))))) | (refine Stop.out (n := 2) ?_; (first | ((k_dflt (refine' comp_openA ?y9w ?y9c ?y9k ?y9n ?_ ?y9s; (case y9w => with_unfolding_all rfl); (case y9c => with_unfolding_all rfl); (case y9k => exact rfl); (case y9n => decide); (case y9s => (intro _; rfl))))))) | (refine Stop.out (n := 3) ?_; (first | ((k_dflt (refine' append_n ?y9F ?y9N ?y9U ?y9z ?_; (case y9F => k_asm); (case y9N => k_asm); (case y9U => k_updF); (case y9z => omega)); intro h9q F9q N9q; (try dsimp only at N9q))))) | (refine Stop.out (n := 4) ?_; (first | (((rename Fr _ _ _ _ => lF'q); (with_unfolding_all refine' For_invTF lF'q ?_ ?ks; (case ks => (intro _; rfl))))))) | (refine Stop.out (n := 5) ?_; (first | ((k_dflt (refine' method_inst ?k1 ?k2 ?k3 ?k4 ?k5 ?k6 ?k7 ?_; (case k1 => k_asm); (case k2 => k_asm); (case k3 => k_inst); (case k4 => k_is); (case k5 => k_is); (case k6 => k_is); (case k7 => k_get)); k_whole))))); k_steps)))
                    refine Stop.out ?_
                    rename News _ _ _ _ => N14
                    rename Fr _ _ _ _ => F14
                    refine ne_tups (p := []) (q := []) ⟨o13, N14.get (.tail _ hm13), ho13⟩ ⟨_, N14.get (.head _), ⟨[], 0, rfl, .nil⟩⟩ (by dsimp only [Around.deeper, callerA]; decide) ?_
                    rw [decide_eq_true rfl]
                    (k_steps; (repeat' ((first | (refine Stop.out (n := 1) ?_; (first | ((k_dflt (refine' comp_open ?y9c ?y9k ?y9n ?_ ?y9s; (case y9c => with_unfolding_all rfl); (case y9k => exact rfl); (case y9n => decide); (case y9s => (intro _; rfl))))))) | (refine Stop.out (n := 2) ?_; (first | ((k_dflt (refine' comp_openA ?y9w ?y9c ?y9k ?y9n ?_ ?y9s; (case y9w => with_unfolding_all rfl); (case y9c => with_unfolding_all rfl); (case y9k => exact rfl); (case y9n => decide); (case y9s => (intro _; rfl))))))) | (refine Stop.out (n := 3) ?_; (first | ((k_dflt (refine' append_n ?y9F ?y9N ?y9U ?y9z ?_; (case y9F => k_asm); (case y9N => k_asm); (case y9U => k_updF); (case y9z => omega)); intro h9q F9q N9q; (try dsimp only at N9q))))) | (refine Stop.out (n := 4) ?_; (first | (((rename Fr _ _ _ _ => lF'q); (with_unfolding_all refine' For_invTF lF'q ?_ ?ks; (case ks => (intro _; rfl))))))) | (refine Stop.out (n := 5) ?_; (first | ((k_dflt (refine' method_inst ?k1 ?k2 ?k3 ?k4 ?k5 ?k6 ?k7 ?_; (case k1 => k_asm); (case k2 => k_asm); (case k3 => k_inst); (case k4 => k_is); (case k5 => k_is); (case k6 => k_is); (case k7 => k_get)); k_whole))))); k_steps)))
                    exact hPC0 _ (TEnd.intro F14 (news_sub N14 fun p hp => .tail _ hp) off ⟨rfl, rfl⟩)
                  · rintro K h tk ys nx ⟨rfl, rfl⟩ F11 N11 o1
                    (try dsimp only); (try k_fold)
                    (k_steps; (repeat' ((first | (refine Stop.out (n := 1) ?_; (first | ((k_dflt (refine' comp_open ?y9c ?y9k ?y9n ?_ ?y9s; (case y9c => with_unfolding_all rfl); (case y9k => exact rfl); (case y9n => decide); (case y9s => (intro _; rfl))))))) | (refine Stop.out (n := 2) ?_; (first | ((k_dflt (refine' comp_openA ?y9w ?y9c ?y9k ?y9n ?_ ?y9s; (case y9w => with_unfolding_all rfl); (case y9c => with_unfolding_all rfl); (case y9k => exact rfl); (case y9n => decide); (case y9s => (intro _; rfl))))))) | (refine Stop.out (n := 3) ?_; (first | ((k_dflt (refine' append_n ?y9F ?y9N ?y9U ?y9z ?_; (case y9F => k_asm); (case y9N => k_asm); (case y9U => k_updF); (case y9z => omega)); intro h9q F9q N9q; (try dsimp only at N9q))))) | (refine Stop.out (n := 4) ?_; (first | (((rename Fr _ _ _ _ => lF'q); (with_unfolding_all refine' For_invTF lF'q ?_ ?ks; (case ks => (intro _; rfl))))))) | (refine Stop.out (n := 5) ?_; (first | ((k_dflt (refine' method_inst ?k1 ?k2 ?k3 ?k4 ?k5 ?k6 ?k7 ?_; (case k1 => k_asm); (case k2 => k_asm); (case k3 => k_inst); (case k4 => k_is); (case k5 => k_is); (case k6 => k_is); (case k7 => k_get)); k_whole))))); k_steps)))
                  --}S9
  )
end Mine
end

theorem PySem.Challenge.cw_nu0265_01_holds : PySem.Challenge.rw_nu0265_01.Holds :=
  Mine.law_holds
