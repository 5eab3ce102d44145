import PyProof.Rows.All
import Wide.All
import OpenK.AllK
import Wide.FinOn
import Lean
import PySem.Challenge.RW_pq0387_01
open PySem PySem.W PyProof.Rows
set_option Elab.async false
set_option linter.unusedVariables false
set_option linter.unusedSimpArgs false
set_option rowWalk.seconds 0
namespace Mine
theorem plain_start : opening PySem.Challenge.rw_pq0387_01.row.prog = plainProg PySem.Challenge.rw_pq0387_01.row.prog.main.scope.names := rfl
theorem no_fence (s : Shared) : fenceModules? PySem.Challenge.rw_pq0387_01.row.prog s = some s := rfl
theorem run_twin : topRun treeTable = Fast.tw14082659384304107361 Fast.tw14364793385576792824 := by
  rw [← Fast.te14082659384304107361, ← Fast.te14364793385576792824]
set_option maxRecDepth 100000 in
set_option maxHeartbeats 8000000 in
noncomputable def hd.heap_39 : Params → Frag :=
  (fun
      (a28 : Arguments) (b28 : List Stmt) (c28 : Scope) (_ : ((PySem.Challenge.rw_pq0387_01.row.prog.theClass "MachineFault").bind fun x => theDefIn x.2.1 "__init__") = some (a28, b28, c28))
      (a41 : Arguments) (b41 : List Stmt) (c41 : Scope) (_ : PySem.Challenge.rw_pq0387_01.row.prog.theDef "led" = some (a41, b41, c41))
      (a48 : Arguments) (b48 : List Stmt) (c48 : Scope) (_ : PySem.Challenge.rw_pq0387_01.row.prog.theDef "word_octets" = some (a48, b48, c48))
      (a55 : Arguments) (b55 : List Stmt) (c55 : Scope) (_ : PySem.Challenge.rw_pq0387_01.row.prog.theDef "octets_word" = some (a55, b55, c55))
      (a60 : Arguments) (b60 : List Stmt) (c60 : Scope) (_ : PySem.Challenge.rw_pq0387_01.row.prog.theDef "places_of" = some (a60, b60, c60))
      (a67 : Arguments) (b67 : List Stmt) (c67 : Scope) (_ : PySem.Challenge.rw_pq0387_01.row.prog.theDef "bloom_with" = some (a67, b67, c67))
      (a74 : Arguments) (b74 : List Stmt) (c74 : Scope) (_ : PySem.Challenge.rw_pq0387_01.row.prog.theDef "bloom_of" = some (a74, b74, c74))
      (a79 : Arguments) (b79 : List Stmt) (c79 : Scope) (_ : PySem.Challenge.rw_pq0387_01.row.prog.theDef "may_hold" = some (a79, b79, c79))
      (a86 : Arguments) (b86 : List Stmt) (c86 : Scope) (_ : PySem.Challenge.rw_pq0387_01.row.prog.theDef "bloom_octets" = some (a86, b86, c86))
      (a100 : Arguments) (b100 : List Stmt) (c100 : Scope) (_ : ((PySem.Challenge.rw_pq0387_01.row.prog.theClass "Log").bind fun x => theDefIn x.2.1 "__init__") = some (a100, b100, c100))
      (a121 : Arguments) (b121 : List Stmt) (c121 : Scope) (_ : ((PySem.Challenge.rw_pq0387_01.row.prog.theClass "Numbered").bind fun x => theDefIn x.2.1 "__init__") = some (a121, b121, c121))
      (a128 : Arguments) (b128 : List Stmt) (c128 : Scope) (_ : ((PySem.Challenge.rw_pq0387_01.row.prog.theClass "Numbered").bind fun x => theDefIn x.2.1 "number") = some (a128, b128, c128))
      (a135 : Arguments) (b135 : List Stmt) (c135 : Scope) (_ : ((PySem.Challenge.rw_pq0387_01.row.prog.theClass "Numbered").bind fun x => theDefIn x.2.1 "of") = some (a135, b135, c135))
      (a147 : Arguments) (b147 : List Stmt) (c147 : Scope) (_ : PySem.Challenge.rw_pq0387_01.row.prog.theDef "_law_well" = some (a147, b147, c147))
      (a154 : Arguments) (b154 : List Stmt) (c154 : Scope) (_ : PySem.Challenge.rw_pq0387_01.row.prog.theDef "_law_draw" = some (a154, b154, c154))
      (a161 : Arguments) (b161 : List Stmt) (c161 : Scope) (_ : PySem.Challenge.rw_pq0387_01.row.prog.theDef "_law_number" = some (a161, b161, c161))
      (a166 : Arguments) (b166 : List Stmt) (c166 : Scope) (_ : PySem.Challenge.rw_pq0387_01.row.prog.theDef "_law_octets" = some (a166, b166, c166))
      (a171 : Arguments) (b171 : List Stmt) (c171 : Scope) (_ : PySem.Challenge.rw_pq0387_01.row.prog.theDef "_law_places" = some (a171, b171, c171))
      (a178 : Arguments) (b178 : List Stmt) (c178 : Scope) (_ : PySem.Challenge.rw_pq0387_01.row.prog.theDef "_law_is_refused" = some (a178, b178, c178))
      (a183 : Arguments) (b183 : List Stmt) (c183 : Scope) (_ : PySem.Challenge.rw_pq0387_01.row.prog.theDef "law" = some (a183, b183, c183))
      (P : Params) => ((
    ((nat_lit 2), (PySem.Obj.mk PySem.Value.none none (PySem.Data.dict (List.toArray ((PySem.DictEntry.mk (PySem.PyData.keyHash P (PySem.Str.ofString "type.__subclasses__.Exception.0")) (PySem.Value.str (PySem.Str.ofString "type.__subclasses__.Exception.0") 214) (PySem.Value.int 31 0)) :: ((PySem.DictEntry.mk (PySem.PyData.keyHash P (PySem.Str.ofString "type.__subclasses__.Exception.n")) (PySem.Value.str (PySem.Str.ofString "type.__subclasses__.Exception.n") 215) (PySem.Value.int 1 0)) :: []))) 2) (List.toArray []))) ::
    ((nat_lit 3), (PySem.Obj.mk (PySem.Value.type "dict") none (PySem.Data.dict (List.toArray ((PySem.DictEntry.mk (PySem.PyData.keyHash P (PySem.Str.ofString "__name__")) (PySem.Value.str (PySem.Str.ofString "__name__") 165) (PySem.Value.str (PySem.Str.ofString "law_pq0387_01") 383)) :: ((PySem.DictEntry.mk (PySem.PyData.keyHash P (PySem.Str.ofString "__doc__")) (PySem.Value.str (PySem.Str.ofString "__doc__") 166) PySem.Value.none) :: ((PySem.DictEntry.mk (PySem.PyData.keyHash P (PySem.Str.ofString "__package__")) (PySem.Value.str (PySem.Str.ofString "__package__") 167) PySem.Value.none) :: ((PySem.DictEntry.mk (PySem.PyData.keyHash P (PySem.Str.ofString "__loader__")) (PySem.Value.str (PySem.Str.ofString "__loader__") 168) (PySem.Value.builtin "__main__.__loader__#opaque")) :: ((PySem.DictEntry.mk (PySem.PyData.keyHash P (PySem.Str.ofString "__spec__")) (PySem.Value.str (PySem.Str.ofString "__spec__") 169) PySem.Value.none) :: ((PySem.DictEntry.mk (PySem.PyData.keyHash P (PySem.Str.ofString "__annotations__")) (PySem.Value.str (PySem.Str.ofString "__annotations__") 170) (PySem.Value.ref 6)) :: ((PySem.DictEntry.mk (PySem.PyData.keyHash P (PySem.Str.ofString "__builtins__")) (PySem.Value.str (PySem.Str.ofString "__builtins__") 171) (PySem.Value.ref 4)) :: ((PySem.DictEntry.mk (PySem.PyData.keyHash P (PySem.Str.ofString "__file__")) (PySem.Value.str (PySem.Str.ofString "__file__") 173) (PySem.Value.str (PySem.Str.ofString "/claim/cut.py") 172)) :: ((PySem.DictEntry.mk (PySem.PyData.keyHash P (PySem.Str.ofString "__cached__")) (PySem.Value.str (PySem.Str.ofString "__cached__") 174) PySem.Value.none) :: ((PySem.DictEntry.mk (PySem.PyData.keyHash P (PySem.Str.ofString "MachineFault")) (PySem.Value.str (PySem.Str.ofString "MachineFault") 217) (PySem.Value.ref 31)) :: ((PySem.DictEntry.mk (PySem.PyData.keyHash P (PySem.Str.ofString "WORD")) (PySem.Value.str (PySem.Str.ofString "WORD") 223) (PySem.Value.int 115792089237316195423570985008687907853269984665640564039457584007913129639936 222)) :: ((PySem.DictEntry.mk (PySem.PyData.keyHash P (PySem.Str.ofString "OCTETS")) (PySem.Value.str (PySem.Str.ofString "OCTETS") 225) (PySem.Value.int 32 224)) :: ((PySem.DictEntry.mk (PySem.PyData.keyHash P (PySem.Str.ofString "led")) (PySem.Value.str (PySem.Str.ofString "led") 232) (PySem.Value.ref 41)) :: ((PySem.DictEntry.mk (PySem.PyData.keyHash P (PySem.Str.ofString "word_octets")) (PySem.Value.str (PySem.Str.ofString "word_octets") 239) (PySem.Value.ref 48)) :: ((PySem.DictEntry.mk (PySem.PyData.keyHash P (PySem.Str.ofString "octets_word")) (PySem.Value.str (PySem.Str.ofString "octets_word") 246) (PySem.Value.ref 55)) :: ((PySem.DictEntry.mk (PySem.PyData.keyHash P (PySem.Str.ofString "places_of")) (PySem.Value.str (PySem.Str.ofString "places_of") 254) (PySem.Value.ref 60)) :: ((PySem.DictEntry.mk (PySem.PyData.keyHash P (PySem.Str.ofString "bloom_with")) (PySem.Value.str (PySem.Str.ofString "bloom_with") 265) (PySem.Value.ref 67)) :: ((PySem.DictEntry.mk (PySem.PyData.keyHash P (PySem.Str.ofString "bloom_of")) (PySem.Value.str (PySem.Str.ofString "bloom_of") 277) (PySem.Value.ref 74)) :: ((PySem.DictEntry.mk (PySem.PyData.keyHash P (PySem.Str.ofString "may_hold")) (PySem.Value.str (PySem.Str.ofString "may_hold") 283) (PySem.Value.ref 79)) :: ((PySem.DictEntry.mk (PySem.PyData.keyHash P (PySem.Str.ofString "bloom_octets")) (PySem.Value.str (PySem.Str.ofString "bloom_octets") 291) (PySem.Value.ref 86)) :: ((PySem.DictEntry.mk (PySem.PyData.keyHash P (PySem.Str.ofString "Log")) (PySem.Value.str (PySem.Str.ofString "Log") 326) (PySem.Value.ref 103)) :: ((PySem.DictEntry.mk (PySem.PyData.keyHash P (PySem.Str.ofString "LEAST_ADDRESS")) (PySem.Value.str (PySem.Str.ofString "LEAST_ADDRESS") 332) (PySem.Value.int 605153021707326989568713251046585937826284568576 331)) :: ((PySem.DictEntry.mk (PySem.PyData.keyHash P (PySem.Str.ofString "SPREAD")) (PySem.Value.str (PySem.Str.ofString "SPREAD") 334) (PySem.Value.int 281479271743489 333)) :: ((PySem.DictEntry.mk (PySem.PyData.keyHash P (PySem.Str.ofString "Numbered")) (PySem.Value.str (PySem.Str.ofString "Numbered") 382) (PySem.Value.ref 138)) :: ((PySem.DictEntry.mk (PySem.PyData.keyHash P (PySem.Str.ofString "_law_well")) (PySem.Value.str (PySem.Str.ofString "_law_well") 390) (PySem.Value.ref 147)) :: ((PySem.DictEntry.mk (PySem.PyData.keyHash P (PySem.Str.ofString "_law_draw")) (PySem.Value.str (PySem.Str.ofString "_law_draw") 399) (PySem.Value.ref 154)) :: ((PySem.DictEntry.mk (PySem.PyData.keyHash P (PySem.Str.ofString "_law_number")) (PySem.Value.str (PySem.Str.ofString "_law_number") 410) (PySem.Value.ref 161)) :: ((PySem.DictEntry.mk (PySem.PyData.keyHash P (PySem.Str.ofString "_law_octets")) (PySem.Value.str (PySem.Str.ofString "_law_octets") 416) (PySem.Value.ref 166)) :: ((PySem.DictEntry.mk (PySem.PyData.keyHash P (PySem.Str.ofString "_law_places")) (PySem.Value.str (PySem.Str.ofString "_law_places") 422) (PySem.Value.ref 171)) :: ((PySem.DictEntry.mk (PySem.PyData.keyHash P (PySem.Str.ofString "_law_is_refused")) (PySem.Value.str (PySem.Str.ofString "_law_is_refused") 430) (PySem.Value.ref 178)) :: ((PySem.DictEntry.mk (PySem.PyData.keyHash P (PySem.Str.ofString "law")) (PySem.Value.str (PySem.Str.ofString "law") 436) (PySem.Value.ref 183)) :: [])))))))))))))))))))))))))))))))) 31) (List.toArray []))) ::
    ((nat_lit 15), (PySem.Obj.mk (PySem.Value.type "tuple") none (PySem.Data.seq (List.toArray ((PySem.Value.type "Exception") :: [])) 0) (List.toArray []))) ::
    ((nat_lit 22), (PySem.Obj.mk (PySem.Value.type "tuple") none (PySem.Data.seq (List.toArray []) 0) (List.toArray []))) ::
    ((nat_lit 24), (PySem.Obj.mk (PySem.Value.type "tuple") none (PySem.Data.seq (List.toArray ((PySem.Value.str (PySem.Str.ofString "self") 204) :: ((PySem.Value.str (PySem.Str.ofString "word") 205) :: []))) 0) (List.toArray []))) ::
    ((nat_lit 25), (PySem.Obj.mk (PySem.Value.type "tuple") none (PySem.Data.seq (List.toArray []) 0) (List.toArray []))) ::
    ((nat_lit 27), (PySem.Obj.mk (PySem.Value.type "code") none (PySem.Data.fields (List.toArray ((PySem.Value.str (PySem.Str.ofString "__init__") 201) :: ((PySem.Value.str (PySem.Str.ofString "MachineFault.__init__") 202) :: ((PySem.Value.str (PySem.Str.ofString "/claim/cut.py") 203) :: ((PySem.Value.int 4 0) :: ((PySem.Value.int 2 0) :: ((PySem.Value.int 0 0) :: ((PySem.Value.int 0 0) :: ((PySem.Value.int 3 0) :: ((PySem.Value.ref 22) :: ((PySem.Value.bool Bool.true) :: ((PySem.Value.int 181 0) :: ((PySem.Value.ref 23) :: (PySem.Value.none :: ((PySem.Value.ref 24) :: ((PySem.Value.ref 25) :: ((PySem.Value.ref 26) :: ((PySem.Value.int 206 0) :: ((PySem.Value.int 4 0) :: ((PySem.Value.str (PySem.Str.ofString "/claim/cut.py") 207) :: []))))))))))))))))))))) (List.toArray []))) ::
    ((nat_lit 28), (PySem.Obj.mk (PySem.Value.type "function") none (PySem.Data.func (PySem.FuncData.mk (PySem.Str.ofString "__init__") (PySem.Str.ofString "MachineFault.__init__") a28 (PySem.FuncBody.stmts b28) c28 3 [] PySem.Value.none PySem.Value.none PySem.Value.none (PySem.Value.str (PySem.Str.ofString "gasledger.errors") 187) none (PySem.Value.ref 27) PySem.Value.none 0)) (List.toArray []))) ::
    ((nat_lit 29), (PySem.Obj.mk (PySem.Value.type "tuple") none (PySem.Data.seq (List.toArray ((PySem.Value.str (PySem.Str.ofString "word") 209) :: [])) 0) (List.toArray []))) ::
    ((nat_lit 30), (PySem.Obj.mk (PySem.Value.type "dict") none (PySem.Data.dict (List.toArray ((PySem.DictEntry.mk (PySem.PyData.keyHash P (PySem.Str.ofString "__module__")) (PySem.Value.str (PySem.Str.ofString "__module__") 196) (PySem.Value.str (PySem.Str.ofString "gasledger.errors") 187)) :: ((PySem.DictEntry.mk (PySem.PyData.keyHash P (PySem.Str.ofString "__firstlineno__")) (PySem.Value.str (PySem.Str.ofString "__firstlineno__") 200) (PySem.Value.int 2 199)) :: ((PySem.DictEntry.mk (PySem.PyData.keyHash P (PySem.Str.ofString "__init__")) (PySem.Value.str (PySem.Str.ofString "__init__") 208) (PySem.Value.ref 28)) :: ((PySem.DictEntry.mk (PySem.PyData.keyHash P (PySem.Str.ofString "__static_attributes__")) (PySem.Value.str (PySem.Str.ofString "__static_attributes__") 210) (PySem.Value.ref 29)) :: ((PySem.DictEntry.mk (PySem.PyData.keyHash P (PySem.Str.ofString "__weakref__")) (PySem.Value.str (PySem.Str.ofString "__weakref__") 212) (PySem.Value.ref 32)) :: ((PySem.DictEntry.mk (PySem.PyData.keyHash P (PySem.Str.ofString "__doc__")) (PySem.Value.str (PySem.Str.ofString "__doc__") 213) PySem.Value.none) :: []))))))) 3) (List.toArray []))) ::
    ((nat_lit 31), (PySem.Obj.mk (PySem.Value.type "type") none (PySem.Data.cls (PySem.ClassData.mk (PySem.Str.ofString "MachineFault") ((PySem.Value.type "Exception") :: []) ((PySem.Value.ref 31) :: ((PySem.Value.type "Exception") :: ((PySem.Value.type "BaseException") :: ((PySem.Value.type "object") :: [])))) 30 (PySem.Str.ofString "MachineFault") Bool.true [] [] Bool.false none Bool.false)) (List.toArray ((some (PySem.Value.ref 15)) :: (none :: ((some (PySem.Value.str (PySem.Str.ofString "MachineFault") 189)) :: ((some (PySem.Value.str (PySem.Str.ofString "MachineFault") 197)) :: ((some (PySem.Value.builtin "Exception.__new__")) :: ((some (PySem.Value.bool Bool.true)) :: []))))))))) ::
    ((nat_lit 32), (PySem.Obj.mk (PySem.Value.type "getset_descriptor") none (PySem.Data.fields (List.toArray ((PySem.Value.str (PySem.Str.ofString "__weakref__") 211) :: ((PySem.Value.ref 31) :: ((PySem.Value.builtin "ExceptionGroup.__weakref__") :: (PySem.Value.none :: [])))))) (List.toArray []))) ::
    ((nat_lit 35), (PySem.Obj.mk (PySem.Value.type "tuple") none (PySem.Data.seq (List.toArray []) 0) (List.toArray []))) ::
    ((nat_lit 37), (PySem.Obj.mk (PySem.Value.type "tuple") none (PySem.Data.seq (List.toArray ((PySem.Value.str (PySem.Str.ofString "n") 229) :: [])) 0) (List.toArray []))) ::
    ((nat_lit 38), (PySem.Obj.mk (PySem.Value.type "tuple") none (PySem.Data.seq (List.toArray []) 0) (List.toArray []))) ::
    ((nat_lit 40), (PySem.Obj.mk (PySem.Value.type "code") none (PySem.Data.fields (List.toArray ((PySem.Value.str (PySem.Str.ofString "led") 226) :: ((PySem.Value.str (PySem.Str.ofString "led") 227) :: ((PySem.Value.str (PySem.Str.ofString "/claim/cut.py") 228) :: ((PySem.Value.int 10 0) :: ((PySem.Value.int 1 0) :: ((PySem.Value.int 0 0) :: ((PySem.Value.int 0 0) :: ((PySem.Value.int 3 0) :: ((PySem.Value.ref 35) :: ((PySem.Value.bool Bool.true) :: ((PySem.Value.int 181 0) :: ((PySem.Value.ref 36) :: (PySem.Value.none :: ((PySem.Value.ref 37) :: ((PySem.Value.ref 38) :: ((PySem.Value.ref 39) :: ((PySem.Value.int 230 0) :: ((PySem.Value.int 10 0) :: ((PySem.Value.str (PySem.Str.ofString "/claim/cut.py") 231) :: []))))))))))))))))))))) (List.toArray []))) ::
    ((nat_lit 41), (PySem.Obj.mk (PySem.Value.type "function") none (PySem.Data.func (PySem.FuncData.mk (PySem.Str.ofString "led") (PySem.Str.ofString "led") a41 (PySem.FuncBody.stmts b41) c41 3 [] PySem.Value.none PySem.Value.none PySem.Value.none (PySem.Value.str (PySem.Str.ofString "gasledger.words") 218) none (PySem.Value.ref 40) PySem.Value.none 0)) (List.toArray []))) ::
    ((nat_lit 42), (PySem.Obj.mk (PySem.Value.type "tuple") none (PySem.Data.seq (List.toArray []) 0) (List.toArray []))) ::
    ((nat_lit 44), (PySem.Obj.mk (PySem.Value.type "tuple") none (PySem.Data.seq (List.toArray ((PySem.Value.str (PySem.Str.ofString "w") 236) :: [])) 0) (List.toArray []))) ::
    ((nat_lit 45), (PySem.Obj.mk (PySem.Value.type "tuple") none (PySem.Data.seq (List.toArray []) 0) (List.toArray []))) ::
    ((nat_lit 47), (PySem.Obj.mk (PySem.Value.type "code") none (PySem.Data.fields (List.toArray ((PySem.Value.str (PySem.Str.ofString "word_octets") 233) :: ((PySem.Value.str (PySem.Str.ofString "word_octets") 234) :: ((PySem.Value.str (PySem.Str.ofString "/claim/cut.py") 235) :: ((PySem.Value.int 12 0) :: ((PySem.Value.int 1 0) :: ((PySem.Value.int 0 0) :: ((PySem.Value.int 0 0) :: ((PySem.Value.int 3 0) :: ((PySem.Value.ref 42) :: ((PySem.Value.bool Bool.true) :: ((PySem.Value.int 181 0) :: ((PySem.Value.ref 43) :: (PySem.Value.none :: ((PySem.Value.ref 44) :: ((PySem.Value.ref 45) :: ((PySem.Value.ref 46) :: ((PySem.Value.int 237 0) :: ((PySem.Value.int 12 0) :: ((PySem.Value.str (PySem.Str.ofString "/claim/cut.py") 238) :: []))))))))))))))))))))) (List.toArray []))) ::
    ((nat_lit 48), (PySem.Obj.mk (PySem.Value.type "function") none (PySem.Data.func (PySem.FuncData.mk (PySem.Str.ofString "word_octets") (PySem.Str.ofString "word_octets") a48 (PySem.FuncBody.stmts b48) c48 3 [] PySem.Value.none PySem.Value.none PySem.Value.none (PySem.Value.str (PySem.Str.ofString "gasledger.words") 218) none (PySem.Value.ref 47) PySem.Value.none 0)) (List.toArray []))) ::
    ((nat_lit 49), (PySem.Obj.mk (PySem.Value.type "tuple") none (PySem.Data.seq (List.toArray []) 0) (List.toArray []))) ::
    ((nat_lit 51), (PySem.Obj.mk (PySem.Value.type "tuple") none (PySem.Data.seq (List.toArray ((PySem.Value.str (PySem.Str.ofString "octets") 243) :: [])) 0) (List.toArray []))) ::
    ((nat_lit 52), (PySem.Obj.mk (PySem.Value.type "tuple") none (PySem.Data.seq (List.toArray []) 0) (List.toArray []))) ::
    ((nat_lit 54), (PySem.Obj.mk (PySem.Value.type "code") none (PySem.Data.fields (List.toArray ((PySem.Value.str (PySem.Str.ofString "octets_word") 240) :: ((PySem.Value.str (PySem.Str.ofString "octets_word") 241) :: ((PySem.Value.str (PySem.Str.ofString "/claim/cut.py") 242) :: ((PySem.Value.int 14 0) :: ((PySem.Value.int 1 0) :: ((PySem.Value.int 0 0) :: ((PySem.Value.int 0 0) :: ((PySem.Value.int 3 0) :: ((PySem.Value.ref 49) :: ((PySem.Value.bool Bool.true) :: ((PySem.Value.int 181 0) :: ((PySem.Value.ref 50) :: (PySem.Value.none :: ((PySem.Value.ref 51) :: ((PySem.Value.ref 52) :: ((PySem.Value.ref 53) :: ((PySem.Value.int 244 0) :: ((PySem.Value.int 14 0) :: ((PySem.Value.str (PySem.Str.ofString "/claim/cut.py") 245) :: []))))))))))))))))))))) (List.toArray []))) ::
    ((nat_lit 55), (PySem.Obj.mk (PySem.Value.type "function") none (PySem.Data.func (PySem.FuncData.mk (PySem.Str.ofString "octets_word") (PySem.Str.ofString "octets_word") a55 (PySem.FuncBody.stmts b55) c55 3 [] PySem.Value.none PySem.Value.none PySem.Value.none (PySem.Value.str (PySem.Str.ofString "gasledger.words") 218) none (PySem.Value.ref 54) PySem.Value.none 0)) (List.toArray []))) ::
    ((nat_lit 56), (PySem.Obj.mk (PySem.Value.type "tuple") none (PySem.Data.seq (List.toArray []) 0) (List.toArray []))) ::
    ((nat_lit 59), (PySem.Obj.mk (PySem.Value.type "code") none (PySem.Data.fields (List.toArray ((PySem.Value.str (PySem.Str.ofString "places_of") 249) :: ((PySem.Value.str (PySem.Str.ofString "places_of") 250) :: ((PySem.Value.str (PySem.Str.ofString "/claim/cut.py") 251) :: ((PySem.Value.int 17 0) :: ((PySem.Value.int 3 0) :: ((PySem.Value.int 0 0) :: ((PySem.Value.int 0 0) :: ((PySem.Value.int 3 0) :: ((PySem.Value.ref 56) :: ((PySem.Value.bool Bool.true) :: ((PySem.Value.int 181 0) :: ((PySem.Value.ref 57) :: (PySem.Value.none :: (PySem.Value.none :: (PySem.Value.none :: ((PySem.Value.ref 58) :: ((PySem.Value.int 252 0) :: ((PySem.Value.int 17 0) :: ((PySem.Value.str (PySem.Str.ofString "/claim/cut.py") 253) :: []))))))))))))))))))))) (List.toArray []))) ::
    ((nat_lit 60), (PySem.Obj.mk (PySem.Value.type "function") none (PySem.Data.func (PySem.FuncData.mk (PySem.Str.ofString "places_of") (PySem.Str.ofString "places_of") a60 (PySem.FuncBody.stmts b60) c60 3 [] PySem.Value.none PySem.Value.none PySem.Value.none (PySem.Value.str (PySem.Str.ofString "gasledger.bloom") 247) none (PySem.Value.ref 59) PySem.Value.none 0)) (List.toArray []))) ::
    ((nat_lit 61), (PySem.Obj.mk (PySem.Value.type "tuple") none (PySem.Data.seq (List.toArray []) 0) (List.toArray []))) ::
    ((nat_lit 63), (PySem.Obj.mk (PySem.Value.type "tuple") none (PySem.Data.seq (List.toArray ((PySem.Value.str (PySem.Str.ofString "bloom") 258) :: ((PySem.Value.str (PySem.Str.ofString "octets") 259) :: ((PySem.Value.str (PySem.Str.ofString "digest") 260) :: ((PySem.Value.str (PySem.Str.ofString "bits") 261) :: ((PySem.Value.str (PySem.Str.ofString "place") 262) :: [])))))) 0) (List.toArray []))) ::
    ((nat_lit 64), (PySem.Obj.mk (PySem.Value.type "tuple") none (PySem.Data.seq (List.toArray []) 0) (List.toArray []))) ::
    ((nat_lit 66), (PySem.Obj.mk (PySem.Value.type "code") none (PySem.Data.fields (List.toArray ((PySem.Value.str (PySem.Str.ofString "bloom_with") 255) :: ((PySem.Value.str (PySem.Str.ofString "bloom_with") 256) :: ((PySem.Value.str (PySem.Str.ofString "/claim/cut.py") 257) :: ((PySem.Value.int 20 0) :: ((PySem.Value.int 4 0) :: ((PySem.Value.int 0 0) :: ((PySem.Value.int 0 0) :: ((PySem.Value.int 3 0) :: ((PySem.Value.ref 61) :: ((PySem.Value.bool Bool.true) :: ((PySem.Value.int 181 0) :: ((PySem.Value.ref 62) :: (PySem.Value.none :: ((PySem.Value.ref 63) :: ((PySem.Value.ref 64) :: ((PySem.Value.ref 65) :: ((PySem.Value.int 263 0) :: ((PySem.Value.int 20 0) :: ((PySem.Value.str (PySem.Str.ofString "/claim/cut.py") 264) :: []))))))))))))))))))))) (List.toArray []))) ::
    ((nat_lit 67), (PySem.Obj.mk (PySem.Value.type "function") none (PySem.Data.func (PySem.FuncData.mk (PySem.Str.ofString "bloom_with") (PySem.Str.ofString "bloom_with") a67 (PySem.FuncBody.stmts b67) c67 3 [] PySem.Value.none PySem.Value.none PySem.Value.none (PySem.Value.str (PySem.Str.ofString "gasledger.bloom") 247) none (PySem.Value.ref 66) PySem.Value.none 0)) (List.toArray []))) ::
    ((nat_lit 68), (PySem.Obj.mk (PySem.Value.type "tuple") none (PySem.Data.seq (List.toArray []) 0) (List.toArray []))) ::
    ((nat_lit 70), (PySem.Obj.mk (PySem.Value.type "tuple") none (PySem.Data.seq (List.toArray ((PySem.Value.str (PySem.Str.ofString "logs") 269) :: ((PySem.Value.str (PySem.Str.ofString "digest") 270) :: ((PySem.Value.str (PySem.Str.ofString "bits") 271) :: ((PySem.Value.str (PySem.Str.ofString "bloom") 272) :: ((PySem.Value.str (PySem.Str.ofString "log") 273) :: ((PySem.Value.str (PySem.Str.ofString "topic") 274) :: []))))))) 0) (List.toArray []))) ::
    ((nat_lit 71), (PySem.Obj.mk (PySem.Value.type "tuple") none (PySem.Data.seq (List.toArray []) 0) (List.toArray []))) ::
    ((nat_lit 73), (PySem.Obj.mk (PySem.Value.type "code") none (PySem.Data.fields (List.toArray ((PySem.Value.str (PySem.Str.ofString "bloom_of") 266) :: ((PySem.Value.str (PySem.Str.ofString "bloom_of") 267) :: ((PySem.Value.str (PySem.Str.ofString "/claim/cut.py") 268) :: ((PySem.Value.int 24 0) :: ((PySem.Value.int 3 0) :: ((PySem.Value.int 0 0) :: ((PySem.Value.int 0 0) :: ((PySem.Value.int 3 0) :: ((PySem.Value.ref 68) :: ((PySem.Value.bool Bool.true) :: ((PySem.Value.int 181 0) :: ((PySem.Value.ref 69) :: (PySem.Value.none :: ((PySem.Value.ref 70) :: ((PySem.Value.ref 71) :: ((PySem.Value.ref 72) :: ((PySem.Value.int 275 0) :: ((PySem.Value.int 24 0) :: ((PySem.Value.str (PySem.Str.ofString "/claim/cut.py") 276) :: []))))))))))))))))))))) (List.toArray []))) ::
    ((nat_lit 74), (PySem.Obj.mk (PySem.Value.type "function") none (PySem.Data.func (PySem.FuncData.mk (PySem.Str.ofString "bloom_of") (PySem.Str.ofString "bloom_of") a74 (PySem.FuncBody.stmts b74) c74 3 [] PySem.Value.none PySem.Value.none PySem.Value.none (PySem.Value.str (PySem.Str.ofString "gasledger.bloom") 247) none (PySem.Value.ref 73) PySem.Value.none 0)) (List.toArray []))) ::
    ((nat_lit 75), (PySem.Obj.mk (PySem.Value.type "tuple") none (PySem.Data.seq (List.toArray []) 0) (List.toArray []))) ::
    ((nat_lit 78), (PySem.Obj.mk (PySem.Value.type "code") none (PySem.Data.fields (List.toArray ((PySem.Value.str (PySem.Str.ofString "may_hold") 278) :: ((PySem.Value.str (PySem.Str.ofString "may_hold") 279) :: ((PySem.Value.str (PySem.Str.ofString "/claim/cut.py") 280) :: ((PySem.Value.int 31 0) :: ((PySem.Value.int 4 0) :: ((PySem.Value.int 0 0) :: ((PySem.Value.int 0 0) :: ((PySem.Value.int 3 0) :: ((PySem.Value.ref 75) :: ((PySem.Value.bool Bool.true) :: ((PySem.Value.int 181 0) :: ((PySem.Value.ref 76) :: (PySem.Value.none :: (PySem.Value.none :: (PySem.Value.none :: ((PySem.Value.ref 77) :: ((PySem.Value.int 281 0) :: ((PySem.Value.int 31 0) :: ((PySem.Value.str (PySem.Str.ofString "/claim/cut.py") 282) :: []))))))))))))))))))))) (List.toArray []))) ::
    ((nat_lit 79), (PySem.Obj.mk (PySem.Value.type "function") none (PySem.Data.func (PySem.FuncData.mk (PySem.Str.ofString "may_hold") (PySem.Str.ofString "may_hold") a79 (PySem.FuncBody.stmts b79) c79 3 [] PySem.Value.none PySem.Value.none PySem.Value.none (PySem.Value.str (PySem.Str.ofString "gasledger.bloom") 247) none (PySem.Value.ref 78) PySem.Value.none 0)) (List.toArray []))) ::
    ((nat_lit 80), (PySem.Obj.mk (PySem.Value.type "tuple") none (PySem.Data.seq (List.toArray []) 0) (List.toArray []))) ::
    ((nat_lit 82), (PySem.Obj.mk (PySem.Value.type "tuple") none (PySem.Data.seq (List.toArray ((PySem.Value.str (PySem.Str.ofString "bloom") 287) :: ((PySem.Value.str (PySem.Str.ofString "bits") 288) :: []))) 0) (List.toArray []))) ::
    ((nat_lit 83), (PySem.Obj.mk (PySem.Value.type "tuple") none (PySem.Data.seq (List.toArray []) 0) (List.toArray []))) ::
    ((nat_lit 85), (PySem.Obj.mk (PySem.Value.type "code") none (PySem.Data.fields (List.toArray ((PySem.Value.str (PySem.Str.ofString "bloom_octets") 284) :: ((PySem.Value.str (PySem.Str.ofString "bloom_octets") 285) :: ((PySem.Value.str (PySem.Str.ofString "/claim/cut.py") 286) :: ((PySem.Value.int 33 0) :: ((PySem.Value.int 2 0) :: ((PySem.Value.int 0 0) :: ((PySem.Value.int 0 0) :: ((PySem.Value.int 3 0) :: ((PySem.Value.ref 80) :: ((PySem.Value.bool Bool.true) :: ((PySem.Value.int 181 0) :: ((PySem.Value.ref 81) :: (PySem.Value.none :: ((PySem.Value.ref 82) :: ((PySem.Value.ref 83) :: ((PySem.Value.ref 84) :: ((PySem.Value.int 289 0) :: ((PySem.Value.int 33 0) :: ((PySem.Value.str (PySem.Str.ofString "/claim/cut.py") 290) :: []))))))))))))))))))))) (List.toArray []))) ::
    ((nat_lit 86), (PySem.Obj.mk (PySem.Value.type "function") none (PySem.Data.func (PySem.FuncData.mk (PySem.Str.ofString "bloom_octets") (PySem.Str.ofString "bloom_octets") a86 (PySem.FuncBody.stmts b86) c86 3 [] PySem.Value.none PySem.Value.none PySem.Value.none (PySem.Value.str (PySem.Str.ofString "gasledger.bloom") 247) none (PySem.Value.ref 85) PySem.Value.none 0)) (List.toArray []))) ::
    ((nat_lit 94), (PySem.Obj.mk (PySem.Value.type "tuple") none (PySem.Data.seq (List.toArray []) 0) (List.toArray []))) ::
    ((nat_lit 96), (PySem.Obj.mk (PySem.Value.type "tuple") none (PySem.Data.seq (List.toArray ((PySem.Value.str (PySem.Str.ofString "self") 309) :: ((PySem.Value.str (PySem.Str.ofString "address") 310) :: ((PySem.Value.str (PySem.Str.ofString "topics") 311) :: ((PySem.Value.str (PySem.Str.ofString "data") 312) :: []))))) 0) (List.toArray []))) ::
    ((nat_lit 97), (PySem.Obj.mk (PySem.Value.type "tuple") none (PySem.Data.seq (List.toArray []) 0) (List.toArray []))) ::
    ((nat_lit 99), (PySem.Obj.mk (PySem.Value.type "code") none (PySem.Data.fields (List.toArray ((PySem.Value.str (PySem.Str.ofString "__init__") 306) :: ((PySem.Value.str (PySem.Str.ofString "Log.__init__") 307) :: ((PySem.Value.str (PySem.Str.ofString "/claim/cut.py") 308) :: ((PySem.Value.int 40 0) :: ((PySem.Value.int 4 0) :: ((PySem.Value.int 0 0) :: ((PySem.Value.int 0 0) :: ((PySem.Value.int 3 0) :: ((PySem.Value.ref 94) :: ((PySem.Value.bool Bool.true) :: ((PySem.Value.int 181 0) :: ((PySem.Value.ref 95) :: (PySem.Value.none :: ((PySem.Value.ref 96) :: ((PySem.Value.ref 97) :: ((PySem.Value.ref 98) :: ((PySem.Value.int 313 0) :: ((PySem.Value.int 40 0) :: ((PySem.Value.str (PySem.Str.ofString "/claim/cut.py") 314) :: []))))))))))))))))))))) (List.toArray []))) ::
    ((nat_lit 100), (PySem.Obj.mk (PySem.Value.type "function") none (PySem.Data.func (PySem.FuncData.mk (PySem.Str.ofString "__init__") (PySem.Str.ofString "Log.__init__") a100 (PySem.FuncBody.stmts b100) c100 3 [] PySem.Value.none PySem.Value.none PySem.Value.none (PySem.Value.str (PySem.Str.ofString "gasledger.account") 292) none (PySem.Value.ref 99) PySem.Value.none 0)) (List.toArray []))) ::
    ((nat_lit 101), (PySem.Obj.mk (PySem.Value.type "tuple") none (PySem.Data.seq (List.toArray ((PySem.Value.str (PySem.Str.ofString "address") 316) :: ((PySem.Value.str (PySem.Str.ofString "data") 317) :: ((PySem.Value.str (PySem.Str.ofString "topics") 318) :: [])))) 0) (List.toArray []))) ::
    ((nat_lit 102), (PySem.Obj.mk (PySem.Value.type "dict") none (PySem.Data.dict (List.toArray ((PySem.DictEntry.mk (PySem.PyData.keyHash P (PySem.Str.ofString "__module__")) (PySem.Value.str (PySem.Str.ofString "__module__") 301) (PySem.Value.str (PySem.Str.ofString "gasledger.account") 292)) :: ((PySem.DictEntry.mk (PySem.PyData.keyHash P (PySem.Str.ofString "__firstlineno__")) (PySem.Value.str (PySem.Str.ofString "__firstlineno__") 305) (PySem.Value.int 38 304)) :: ((PySem.DictEntry.mk (PySem.PyData.keyHash P (PySem.Str.ofString "__init__")) (PySem.Value.str (PySem.Str.ofString "__init__") 315) (PySem.Value.ref 100)) :: ((PySem.DictEntry.mk (PySem.PyData.keyHash P (PySem.Str.ofString "__static_attributes__")) (PySem.Value.str (PySem.Str.ofString "__static_attributes__") 319) (PySem.Value.ref 101)) :: ((PySem.DictEntry.mk (PySem.PyData.keyHash P (PySem.Str.ofString "__dict__")) (PySem.Value.str (PySem.Str.ofString "__dict__") 321) (PySem.Value.ref 104)) :: ((PySem.DictEntry.mk (PySem.PyData.keyHash P (PySem.Str.ofString "__weakref__")) (PySem.Value.str (PySem.Str.ofString "__weakref__") 323) (PySem.Value.ref 105)) :: ((PySem.DictEntry.mk (PySem.PyData.keyHash P (PySem.Str.ofString "__doc__")) (PySem.Value.str (PySem.Str.ofString "__doc__") 324) PySem.Value.none) :: [])))))))) 4) (List.toArray []))) ::
    ((nat_lit 103), (PySem.Obj.mk (PySem.Value.type "type") none (PySem.Data.cls (PySem.ClassData.mk (PySem.Str.ofString "Log") ((PySem.Value.type "object") :: []) ((PySem.Value.ref 103) :: ((PySem.Value.type "object") :: [])) 102 (PySem.Str.ofString "Log") Bool.true [] [] Bool.false none Bool.false)) (List.toArray (none :: (none :: ((some (PySem.Value.str (PySem.Str.ofString "Log") 294)) :: ((some (PySem.Value.str (PySem.Str.ofString "Log") 302)) :: ((some (PySem.Value.builtin "object.__new__")) :: ((some (PySem.Value.bool Bool.true)) :: []))))))))) ::
    ((nat_lit 104), (PySem.Obj.mk (PySem.Value.type "getset_descriptor") none (PySem.Data.fields (List.toArray ((PySem.Value.str (PySem.Str.ofString "__dict__") 320) :: ((PySem.Value.ref 103) :: ((PySem.Value.builtin "function.__dict__") :: ((PySem.Value.builtin "function.__dict__#set") :: [])))))) (List.toArray []))) ::
    ((nat_lit 105), (PySem.Obj.mk (PySem.Value.type "getset_descriptor") none (PySem.Data.fields (List.toArray ((PySem.Value.str (PySem.Str.ofString "__weakref__") 322) :: ((PySem.Value.ref 103) :: ((PySem.Value.builtin "ExceptionGroup.__weakref__") :: (PySem.Value.none :: [])))))) (List.toArray []))) ::
    ((nat_lit 115), (PySem.Obj.mk (PySem.Value.type "tuple") none (PySem.Data.seq (List.toArray []) 0) (List.toArray []))) ::
    ((nat_lit 117), (PySem.Obj.mk (PySem.Value.type "tuple") none (PySem.Data.seq (List.toArray ((PySem.Value.str (PySem.Str.ofString "self") 350) :: [])) 0) (List.toArray []))) ::
    ((nat_lit 118), (PySem.Obj.mk (PySem.Value.type "tuple") none (PySem.Data.seq (List.toArray []) 0) (List.toArray []))) ::
    ((nat_lit 120), (PySem.Obj.mk (PySem.Value.type "code") none (PySem.Data.fields (List.toArray ((PySem.Value.str (PySem.Str.ofString "__init__") 347) :: ((PySem.Value.str (PySem.Str.ofString "Numbered.__init__") 348) :: ((PySem.Value.str (PySem.Str.ofString "/claim/cut.py") 349) :: ((PySem.Value.int 49 0) :: ((PySem.Value.int 1 0) :: ((PySem.Value.int 0 0) :: ((PySem.Value.int 0 0) :: ((PySem.Value.int 3 0) :: ((PySem.Value.ref 115) :: ((PySem.Value.bool Bool.true) :: ((PySem.Value.int 181 0) :: ((PySem.Value.ref 116) :: (PySem.Value.none :: ((PySem.Value.ref 117) :: ((PySem.Value.ref 118) :: ((PySem.Value.ref 119) :: ((PySem.Value.int 351 0) :: ((PySem.Value.int 49 0) :: ((PySem.Value.str (PySem.Str.ofString "/claim/cut.py") 352) :: []))))))))))))))))))))) (List.toArray []))) ::
    ((nat_lit 121), (PySem.Obj.mk (PySem.Value.type "function") none (PySem.Data.func (PySem.FuncData.mk (PySem.Str.ofString "__init__") (PySem.Str.ofString "Numbered.__init__") a121 (PySem.FuncBody.stmts b121) c121 3 [] PySem.Value.none PySem.Value.none PySem.Value.none (PySem.Value.str (PySem.Str.ofString "gasledger.digests") 327) none (PySem.Value.ref 120) PySem.Value.none 0)) (List.toArray []))) ::
    ((nat_lit 122), (PySem.Obj.mk (PySem.Value.type "tuple") none (PySem.Data.seq (List.toArray []) 0) (List.toArray []))) ::
    ((nat_lit 124), (PySem.Obj.mk (PySem.Value.type "tuple") none (PySem.Data.seq (List.toArray ((PySem.Value.str (PySem.Str.ofString "self") 357) :: ((PySem.Value.str (PySem.Str.ofString "octets") 358) :: ((PySem.Value.str (PySem.Str.ofString "key") 359) :: [])))) 0) (List.toArray []))) ::
    ((nat_lit 125), (PySem.Obj.mk (PySem.Value.type "tuple") none (PySem.Data.seq (List.toArray []) 0) (List.toArray []))) ::
    ((nat_lit 127), (PySem.Obj.mk (PySem.Value.type "code") none (PySem.Data.fields (List.toArray ((PySem.Value.str (PySem.Str.ofString "number") 354) :: ((PySem.Value.str (PySem.Str.ofString "Numbered.number") 355) :: ((PySem.Value.str (PySem.Str.ofString "/claim/cut.py") 356) :: ((PySem.Value.int 52 0) :: ((PySem.Value.int 2 0) :: ((PySem.Value.int 0 0) :: ((PySem.Value.int 0 0) :: ((PySem.Value.int 3 0) :: ((PySem.Value.ref 122) :: ((PySem.Value.bool Bool.true) :: ((PySem.Value.int 181 0) :: ((PySem.Value.ref 123) :: (PySem.Value.none :: ((PySem.Value.ref 124) :: ((PySem.Value.ref 125) :: ((PySem.Value.ref 126) :: ((PySem.Value.int 360 0) :: ((PySem.Value.int 52 0) :: ((PySem.Value.str (PySem.Str.ofString "/claim/cut.py") 361) :: []))))))))))))))))))))) (List.toArray []))) ::
    ((nat_lit 128), (PySem.Obj.mk (PySem.Value.type "function") none (PySem.Data.func (PySem.FuncData.mk (PySem.Str.ofString "number") (PySem.Str.ofString "Numbered.number") a128 (PySem.FuncBody.stmts b128) c128 3 [] PySem.Value.none PySem.Value.none PySem.Value.none (PySem.Value.str (PySem.Str.ofString "gasledger.digests") 327) none (PySem.Value.ref 127) PySem.Value.none 0)) (List.toArray []))) ::
    ((nat_lit 129), (PySem.Obj.mk (PySem.Value.type "tuple") none (PySem.Data.seq (List.toArray []) 0) (List.toArray []))) ::
    ((nat_lit 131), (PySem.Obj.mk (PySem.Value.type "tuple") none (PySem.Data.seq (List.toArray ((PySem.Value.str (PySem.Str.ofString "self") 366) :: ((PySem.Value.str (PySem.Str.ofString "octets") 367) :: ((PySem.Value.str (PySem.Str.ofString "number") 368) :: ((PySem.Value.str (PySem.Str.ofString "first") 369) :: ((PySem.Value.str (PySem.Str.ofString "middle") 370) :: [])))))) 0) (List.toArray []))) ::
    ((nat_lit 132), (PySem.Obj.mk (PySem.Value.type "tuple") none (PySem.Data.seq (List.toArray []) 0) (List.toArray []))) ::
    ((nat_lit 134), (PySem.Obj.mk (PySem.Value.type "code") none (PySem.Data.fields (List.toArray ((PySem.Value.str (PySem.Str.ofString "of") 363) :: ((PySem.Value.str (PySem.Str.ofString "Numbered.of") 364) :: ((PySem.Value.str (PySem.Str.ofString "/claim/cut.py") 365) :: ((PySem.Value.int 58 0) :: ((PySem.Value.int 2 0) :: ((PySem.Value.int 0 0) :: ((PySem.Value.int 0 0) :: ((PySem.Value.int 3 0) :: ((PySem.Value.ref 129) :: ((PySem.Value.bool Bool.true) :: ((PySem.Value.int 181 0) :: ((PySem.Value.ref 130) :: (PySem.Value.none :: ((PySem.Value.ref 131) :: ((PySem.Value.ref 132) :: ((PySem.Value.ref 133) :: ((PySem.Value.int 371 0) :: ((PySem.Value.int 58 0) :: ((PySem.Value.str (PySem.Str.ofString "/claim/cut.py") 372) :: []))))))))))))))))))))) (List.toArray []))) ::
    ((nat_lit 135), (PySem.Obj.mk (PySem.Value.type "function") none (PySem.Data.func (PySem.FuncData.mk (PySem.Str.ofString "of") (PySem.Str.ofString "Numbered.of") a135 (PySem.FuncBody.stmts b135) c135 3 [] PySem.Value.none PySem.Value.none PySem.Value.none (PySem.Value.str (PySem.Str.ofString "gasledger.digests") 327) none (PySem.Value.ref 134) PySem.Value.none 0)) (List.toArray []))) ::
    ((nat_lit 136), (PySem.Obj.mk (PySem.Value.type "tuple") none (PySem.Data.seq (List.toArray ((PySem.Value.str (PySem.Str.ofString "known") 374) :: [])) 0) (List.toArray []))) ::
    ((nat_lit 137), (PySem.Obj.mk (PySem.Value.type "dict") none (PySem.Data.dict (List.toArray ((PySem.DictEntry.mk (PySem.PyData.keyHash P (PySem.Str.ofString "__module__")) (PySem.Value.str (PySem.Str.ofString "__module__") 342) (PySem.Value.str (PySem.Str.ofString "gasledger.digests") 327)) :: ((PySem.DictEntry.mk (PySem.PyData.keyHash P (PySem.Str.ofString "__firstlineno__")) (PySem.Value.str (PySem.Str.ofString "__firstlineno__") 346) (PySem.Value.int 47 345)) :: ((PySem.DictEntry.mk (PySem.PyData.keyHash P (PySem.Str.ofString "__init__")) (PySem.Value.str (PySem.Str.ofString "__init__") 353) (PySem.Value.ref 121)) :: ((PySem.DictEntry.mk (PySem.PyData.keyHash P (PySem.Str.ofString "number")) (PySem.Value.str (PySem.Str.ofString "number") 362) (PySem.Value.ref 128)) :: ((PySem.DictEntry.mk (PySem.PyData.keyHash P (PySem.Str.ofString "of")) (PySem.Value.str (PySem.Str.ofString "of") 373) (PySem.Value.ref 135)) :: ((PySem.DictEntry.mk (PySem.PyData.keyHash P (PySem.Str.ofString "__static_attributes__")) (PySem.Value.str (PySem.Str.ofString "__static_attributes__") 375) (PySem.Value.ref 136)) :: ((PySem.DictEntry.mk (PySem.PyData.keyHash P (PySem.Str.ofString "__dict__")) (PySem.Value.str (PySem.Str.ofString "__dict__") 377) (PySem.Value.ref 139)) :: ((PySem.DictEntry.mk (PySem.PyData.keyHash P (PySem.Str.ofString "__weakref__")) (PySem.Value.str (PySem.Str.ofString "__weakref__") 379) (PySem.Value.ref 140)) :: ((PySem.DictEntry.mk (PySem.PyData.keyHash P (PySem.Str.ofString "__doc__")) (PySem.Value.str (PySem.Str.ofString "__doc__") 380) PySem.Value.none) :: [])))))))))) 4) (List.toArray []))) ::
    ((nat_lit 138), (PySem.Obj.mk (PySem.Value.type "type") none (PySem.Data.cls (PySem.ClassData.mk (PySem.Str.ofString "Numbered") ((PySem.Value.type "object") :: []) ((PySem.Value.ref 138) :: ((PySem.Value.type "object") :: [])) 137 (PySem.Str.ofString "Numbered") Bool.true [] [] Bool.false none Bool.false)) (List.toArray (none :: (none :: ((some (PySem.Value.str (PySem.Str.ofString "Numbered") 335)) :: ((some (PySem.Value.str (PySem.Str.ofString "Numbered") 343)) :: ((some (PySem.Value.builtin "object.__new__")) :: ((some (PySem.Value.bool Bool.true)) :: []))))))))) ::
    ((nat_lit 139), (PySem.Obj.mk (PySem.Value.type "getset_descriptor") none (PySem.Data.fields (List.toArray ((PySem.Value.str (PySem.Str.ofString "__dict__") 376) :: ((PySem.Value.ref 138) :: ((PySem.Value.builtin "function.__dict__") :: ((PySem.Value.builtin "function.__dict__#set") :: [])))))) (List.toArray []))) ::
    ((nat_lit 140), (PySem.Obj.mk (PySem.Value.type "getset_descriptor") none (PySem.Data.fields (List.toArray ((PySem.Value.str (PySem.Str.ofString "__weakref__") 378) :: ((PySem.Value.ref 138) :: ((PySem.Value.builtin "ExceptionGroup.__weakref__") :: (PySem.Value.none :: [])))))) (List.toArray []))) ::
    ((nat_lit 143), (PySem.Obj.mk (PySem.Value.type "tuple") none (PySem.Data.seq (List.toArray []) 0) (List.toArray []))) ::
    ((nat_lit 146), (PySem.Obj.mk (PySem.Value.type "code") none (PySem.Data.fields (List.toArray ((PySem.Value.str (PySem.Str.ofString "_law_well") 385) :: ((PySem.Value.str (PySem.Str.ofString "_law_well") 386) :: ((PySem.Value.str (PySem.Str.ofString "/claim/cut.py") 387) :: ((PySem.Value.int 64 0) :: ((PySem.Value.int 1 0) :: ((PySem.Value.int 0 0) :: ((PySem.Value.int 0 0) :: ((PySem.Value.int 3 0) :: ((PySem.Value.ref 143) :: ((PySem.Value.bool Bool.true) :: ((PySem.Value.int 181 0) :: ((PySem.Value.ref 144) :: (PySem.Value.none :: (PySem.Value.none :: (PySem.Value.none :: ((PySem.Value.ref 145) :: ((PySem.Value.int 388 0) :: ((PySem.Value.int 64 0) :: ((PySem.Value.str (PySem.Str.ofString "/claim/cut.py") 389) :: []))))))))))))))))))))) (List.toArray []))) ::
    ((nat_lit 147), (PySem.Obj.mk (PySem.Value.type "function") none (PySem.Data.func (PySem.FuncData.mk (PySem.Str.ofString "_law_well") (PySem.Str.ofString "_law_well") a147 (PySem.FuncBody.stmts b147) c147 3 [] PySem.Value.none PySem.Value.none PySem.Value.none (PySem.Value.str (PySem.Str.ofString "law_pq0387_01") 383) none (PySem.Value.ref 146) PySem.Value.none 0)) (List.toArray []))) ::
    ((nat_lit 148), (PySem.Obj.mk (PySem.Value.type "tuple") none (PySem.Data.seq (List.toArray []) 0) (List.toArray []))) ::
    ((nat_lit 150), (PySem.Obj.mk (PySem.Value.type "tuple") none (PySem.Data.seq (List.toArray ((PySem.Value.str (PySem.Str.ofString "well") 394) :: ((PySem.Value.str (PySem.Str.ofString "size") 395) :: ((PySem.Value.str (PySem.Str.ofString "given") 396) :: [])))) 0) (List.toArray []))) ::
    ((nat_lit 151), (PySem.Obj.mk (PySem.Value.type "tuple") none (PySem.Data.seq (List.toArray []) 0) (List.toArray []))) ::
    ((nat_lit 153), (PySem.Obj.mk (PySem.Value.type "code") none (PySem.Data.fields (List.toArray ((PySem.Value.str (PySem.Str.ofString "_law_draw") 391) :: ((PySem.Value.str (PySem.Str.ofString "_law_draw") 392) :: ((PySem.Value.str (PySem.Str.ofString "/claim/cut.py") 393) :: ((PySem.Value.int 66 0) :: ((PySem.Value.int 2 0) :: ((PySem.Value.int 0 0) :: ((PySem.Value.int 0 0) :: ((PySem.Value.int 3 0) :: ((PySem.Value.ref 148) :: ((PySem.Value.bool Bool.true) :: ((PySem.Value.int 181 0) :: ((PySem.Value.ref 149) :: (PySem.Value.none :: ((PySem.Value.ref 150) :: ((PySem.Value.ref 151) :: ((PySem.Value.ref 152) :: ((PySem.Value.int 397 0) :: ((PySem.Value.int 66 0) :: ((PySem.Value.str (PySem.Str.ofString "/claim/cut.py") 398) :: []))))))))))))))))))))) (List.toArray []))) ::
    ((nat_lit 154), (PySem.Obj.mk (PySem.Value.type "function") none (PySem.Data.func (PySem.FuncData.mk (PySem.Str.ofString "_law_draw") (PySem.Str.ofString "_law_draw") a154 (PySem.FuncBody.stmts b154) c154 3 [] PySem.Value.none PySem.Value.none PySem.Value.none (PySem.Value.str (PySem.Str.ofString "law_pq0387_01") 383) none (PySem.Value.ref 153) PySem.Value.none 0)) (List.toArray []))) ::
    ((nat_lit 155), (PySem.Obj.mk (PySem.Value.type "tuple") none (PySem.Data.seq (List.toArray []) 0) (List.toArray []))) ::
    ((nat_lit 157), (PySem.Obj.mk (PySem.Value.type "tuple") none (PySem.Data.seq (List.toArray ((PySem.Value.str (PySem.Str.ofString "well") 403) :: ((PySem.Value.str (PySem.Str.ofString "many") 404) :: ((PySem.Value.str (PySem.Str.ofString "ahead") 405) :: ((PySem.Value.str (PySem.Str.ofString "way") 406) :: ((PySem.Value.str (PySem.Str.ofString "far") 407) :: [])))))) 0) (List.toArray []))) ::
    ((nat_lit 158), (PySem.Obj.mk (PySem.Value.type "tuple") none (PySem.Data.seq (List.toArray []) 0) (List.toArray []))) ::
    ((nat_lit 160), (PySem.Obj.mk (PySem.Value.type "code") none (PySem.Data.fields (List.toArray ((PySem.Value.str (PySem.Str.ofString "_law_number") 400) :: ((PySem.Value.str (PySem.Str.ofString "_law_number") 401) :: ((PySem.Value.str (PySem.Str.ofString "/claim/cut.py") 402) :: ((PySem.Value.int 74 0) :: ((PySem.Value.int 3 0) :: ((PySem.Value.int 0 0) :: ((PySem.Value.int 0 0) :: ((PySem.Value.int 3 0) :: ((PySem.Value.ref 155) :: ((PySem.Value.bool Bool.true) :: ((PySem.Value.int 181 0) :: ((PySem.Value.ref 156) :: (PySem.Value.none :: ((PySem.Value.ref 157) :: ((PySem.Value.ref 158) :: ((PySem.Value.ref 159) :: ((PySem.Value.int 408 0) :: ((PySem.Value.int 74 0) :: ((PySem.Value.str (PySem.Str.ofString "/claim/cut.py") 409) :: []))))))))))))))))))))) (List.toArray []))) ::
    ((nat_lit 161), (PySem.Obj.mk (PySem.Value.type "function") none (PySem.Data.func (PySem.FuncData.mk (PySem.Str.ofString "_law_number") (PySem.Str.ofString "_law_number") a161 (PySem.FuncBody.stmts b161) c161 3 [] PySem.Value.none PySem.Value.none PySem.Value.none (PySem.Value.str (PySem.Str.ofString "law_pq0387_01") 383) none (PySem.Value.ref 160) PySem.Value.none 0)) (List.toArray []))) ::
    ((nat_lit 162), (PySem.Obj.mk (PySem.Value.type "tuple") none (PySem.Data.seq (List.toArray []) 0) (List.toArray []))) ::
    ((nat_lit 165), (PySem.Obj.mk (PySem.Value.type "code") none (PySem.Data.fields (List.toArray ((PySem.Value.str (PySem.Str.ofString "_law_octets") 411) :: ((PySem.Value.str (PySem.Str.ofString "_law_octets") 412) :: ((PySem.Value.str (PySem.Str.ofString "/claim/cut.py") 413) :: ((PySem.Value.int 79 0) :: ((PySem.Value.int 2 0) :: ((PySem.Value.int 0 0) :: ((PySem.Value.int 0 0) :: ((PySem.Value.int 3 0) :: ((PySem.Value.ref 162) :: ((PySem.Value.bool Bool.true) :: ((PySem.Value.int 181 0) :: ((PySem.Value.ref 163) :: (PySem.Value.none :: (PySem.Value.none :: (PySem.Value.none :: ((PySem.Value.ref 164) :: ((PySem.Value.int 414 0) :: ((PySem.Value.int 79 0) :: ((PySem.Value.str (PySem.Str.ofString "/claim/cut.py") 415) :: []))))))))))))))))))))) (List.toArray []))) ::
    ((nat_lit 166), (PySem.Obj.mk (PySem.Value.type "function") none (PySem.Data.func (PySem.FuncData.mk (PySem.Str.ofString "_law_octets") (PySem.Str.ofString "_law_octets") a166 (PySem.FuncBody.stmts b166) c166 3 [] PySem.Value.none PySem.Value.none PySem.Value.none (PySem.Value.str (PySem.Str.ofString "law_pq0387_01") 383) none (PySem.Value.ref 165) PySem.Value.none 0)) (List.toArray []))) ::
    ((nat_lit 167), (PySem.Obj.mk (PySem.Value.type "tuple") none (PySem.Data.seq (List.toArray []) 0) (List.toArray []))) ::
    ((nat_lit 170), (PySem.Obj.mk (PySem.Value.type "code") none (PySem.Data.fields (List.toArray ((PySem.Value.str (PySem.Str.ofString "_law_places") 417) :: ((PySem.Value.str (PySem.Str.ofString "_law_places") 418) :: ((PySem.Value.str (PySem.Str.ofString "/claim/cut.py") 419) :: ((PySem.Value.int 81 0) :: ((PySem.Value.int 2 0) :: ((PySem.Value.int 0 0) :: ((PySem.Value.int 0 0) :: ((PySem.Value.int 3 0) :: ((PySem.Value.ref 167) :: ((PySem.Value.bool Bool.true) :: ((PySem.Value.int 181 0) :: ((PySem.Value.ref 168) :: (PySem.Value.none :: (PySem.Value.none :: (PySem.Value.none :: ((PySem.Value.ref 169) :: ((PySem.Value.int 420 0) :: ((PySem.Value.int 81 0) :: ((PySem.Value.str (PySem.Str.ofString "/claim/cut.py") 421) :: []))))))))))))))))))))) (List.toArray []))) ::
    ((nat_lit 171), (PySem.Obj.mk (PySem.Value.type "function") none (PySem.Data.func (PySem.FuncData.mk (PySem.Str.ofString "_law_places") (PySem.Str.ofString "_law_places") a171 (PySem.FuncBody.stmts b171) c171 3 [] PySem.Value.none PySem.Value.none PySem.Value.none (PySem.Value.str (PySem.Str.ofString "law_pq0387_01") 383) none (PySem.Value.ref 170) PySem.Value.none 0)) (List.toArray []))) ::
    ((nat_lit 172), (PySem.Obj.mk (PySem.Value.type "tuple") none (PySem.Data.seq (List.toArray []) 0) (List.toArray []))) ::
    ((nat_lit 174), (PySem.Obj.mk (PySem.Value.type "tuple") none (PySem.Data.seq (List.toArray ((PySem.Value.str (PySem.Str.ofString "bloom") 426) :: ((PySem.Value.str (PySem.Str.ofString "bits") 427) :: []))) 0) (List.toArray []))) ::
    ((nat_lit 175), (PySem.Obj.mk (PySem.Value.type "tuple") none (PySem.Data.seq (List.toArray []) 0) (List.toArray []))) ::
    ((nat_lit 177), (PySem.Obj.mk (PySem.Value.type "code") none (PySem.Data.fields (List.toArray ((PySem.Value.str (PySem.Str.ofString "_law_is_refused") 423) :: ((PySem.Value.str (PySem.Str.ofString "_law_is_refused") 424) :: ((PySem.Value.str (PySem.Str.ofString "/claim/cut.py") 425) :: ((PySem.Value.int 87 0) :: ((PySem.Value.int 2 0) :: ((PySem.Value.int 0 0) :: ((PySem.Value.int 0 0) :: ((PySem.Value.int 3 0) :: ((PySem.Value.ref 172) :: ((PySem.Value.bool Bool.true) :: ((PySem.Value.int 181 0) :: ((PySem.Value.ref 173) :: (PySem.Value.none :: ((PySem.Value.ref 174) :: ((PySem.Value.ref 175) :: ((PySem.Value.ref 176) :: ((PySem.Value.int 428 0) :: ((PySem.Value.int 87 0) :: ((PySem.Value.str (PySem.Str.ofString "/claim/cut.py") 429) :: []))))))))))))))))))))) (List.toArray []))) ::
    ((nat_lit 178), (PySem.Obj.mk (PySem.Value.type "function") none (PySem.Data.func (PySem.FuncData.mk (PySem.Str.ofString "_law_is_refused") (PySem.Str.ofString "_law_is_refused") a178 (PySem.FuncBody.stmts b178) c178 3 [] PySem.Value.none PySem.Value.none PySem.Value.none (PySem.Value.str (PySem.Str.ofString "law_pq0387_01") 383) none (PySem.Value.ref 177) PySem.Value.none 0)) (List.toArray []))) ::
    ((nat_lit 179), (PySem.Obj.mk (PySem.Value.type "tuple") none (PySem.Data.seq (List.toArray []) 0) (List.toArray []))) ::
    ((nat_lit 182), (PySem.Obj.mk (PySem.Value.type "code") none (PySem.Data.fields (List.toArray ((PySem.Value.str (PySem.Str.ofString "law") 431) :: ((PySem.Value.str (PySem.Str.ofString "law") 432) :: ((PySem.Value.str (PySem.Str.ofString "/claim/cut.py") 433) :: ((PySem.Value.int 93 0) :: ((PySem.Value.int 1 0) :: ((PySem.Value.int 0 0) :: ((PySem.Value.int 0 0) :: ((PySem.Value.int 3 0) :: ((PySem.Value.ref 179) :: ((PySem.Value.bool Bool.true) :: ((PySem.Value.int 181 0) :: ((PySem.Value.ref 180) :: (PySem.Value.none :: (PySem.Value.none :: (PySem.Value.none :: ((PySem.Value.ref 181) :: ((PySem.Value.int 434 0) :: ((PySem.Value.int 93 0) :: ((PySem.Value.str (PySem.Str.ofString "/claim/cut.py") 435) :: []))))))))))))))))))))) (List.toArray []))) ::
    ((nat_lit 183), (PySem.Obj.mk (PySem.Value.type "function") none (PySem.Data.func (PySem.FuncData.mk (PySem.Str.ofString "law") (PySem.Str.ofString "law") a183 (PySem.FuncBody.stmts b183) c183 3 [] PySem.Value.none PySem.Value.none PySem.Value.none (PySem.Value.str (PySem.Str.ofString "law_pq0387_01") 383) none (PySem.Value.ref 182) PySem.Value.none 0)) (List.toArray []))) ::
    []) : Frag))
    _ _ _ rfl _ _ _ rfl _ _ _ rfl _ _ _ rfl _ _ _ rfl _ _ _ rfl _ _ _ rfl _ _ _ rfl _ _ _ rfl _ _ _ rfl _ _ _ rfl _ _ _ rfl _ _ _ rfl _ _ _ rfl _ _ _ rfl _ _ _ rfl _ _ _ rfl _ _ _ rfl _ _ _ rfl _ _ _ rfl
set_option maxRecDepth 100000 in
set_option maxHeartbeats 8000000 in
noncomputable def hd.view_39 : Program :=
  (fun (s0 s1 s2 s3 s4 s5 s6 s7 s8 s9 s10 s11 s12 s13 s14 s15 s16 s17 s18 s19 s20 s21 s22 s23 s24 s25 s26 s27 : Stmt) (_ : PySem.Challenge.rw_pq0387_01.row.prog.main.body = [s0, s1, s2, s3, s4, s5, s6, s7, s8, s9, s10, s11, s12, s13, s14, s15, s16, s17, s18, s19, s20, s21, s22, s23, s24, s25, s26, s27]) =>
    ({ PySem.Challenge.rw_pq0387_01.row.prog with main := { PySem.Challenge.rw_pq0387_01.row.prog.main with body := [s1, s3, s4, s5, s6, s7, s9, s10, s11, s12, s13, s15, s17, s18, s19, s21, s22, s23, s24, s25, s26, s27] } } : Program))
    _ _ _ _ _ _ _ _ _ _ _ _ _ _ _ _ _ _ _ _ _ _ _ _ _ _ _ _ rfl
set_option maxRecDepth 100000 in
set_option maxHeartbeats 8000000 in
noncomputable abbrev headHook : Hook := kHook hd.heap_39 [2, 3, 15, 22, 24, 25, 27, 28, 29, 30, 31, 32, 35, 37, 38, 40, 41, 42, 44, 45, 47, 48, 49, 51, 52, 54, 55, 56, 59, 60, 61, 63, 64, 66, 67, 68, 70, 71, 73, 74, 75, 78, 79, 80, 82, 83, 85, 86, 94, 96, 97, 99, 100, 101, 102, 103, 104, 105, 115, 117, 118, 120, 121, 122, 124, 125, 127, 128, 129, 131, 132, 134, 135, 136, 137, 138, 139, 140, 143, 146, 147, 148, 150, 151, 153, 154, 155, 157, 158, 160, 161, 162, 165, 166, 167, 170, 171, 172, 174, 175, 177, 178, 179, 182, 183] (fun _ => by kernel_rfl)
set_option maxRecDepth 100000 in
set_option maxHeartbeats 8000000 in
noncomputable def atK (P : Params) (a : Nat) : Obj := ((hd.heap_39 P).lookup a).getD (boot_o_0 P)
noncomputable def fnK (P : Params) (a : Nat) : FuncData := match (atK P a).data with | .func d => d | _ => default
noncomputable def endHeap (P : Params) : Heap := Heap.mk (Array.mk (
    PySem.W.boot_o_0 P ::
    PySem.W.boot_o_1 P ::
    atK P 2 ::
    atK P 3 ::
    PySem.W.boot_o_4 P ::
    PySem.W.boot_o_5 P ::
    PySem.W.boot_o_6 P ::
    PySem.W.boot_o_7 P ::
    PySem.W.boot_o_8 P ::
    PySem.W.boot_o_9 P ::
    PySem.W.boot_o_10 P ::
    (PySem.Obj.mk (PySem.Value.type "tuple") none (PySem.Data.seq (List.toArray []) 0) (List.toArray [])) ::
    (PySem.Obj.mk PySem.Value.none none (PySem.Data.fields (List.toArray ((PySem.Value.int 2 0) :: ((PySem.Value.int 0 0) :: ((PySem.Value.ref 20) :: ((PySem.Value.int 10 0) :: ((PySem.Value.int 0 0) :: ((PySem.Value.ref 40) :: ((PySem.Value.int 12 0) :: ((PySem.Value.int 0 0) :: ((PySem.Value.ref 47) :: ((PySem.Value.int 14 0) :: ((PySem.Value.int 0 0) :: ((PySem.Value.ref 54) :: ((PySem.Value.int 17 0) :: ((PySem.Value.int 0 0) :: ((PySem.Value.ref 59) :: ((PySem.Value.int 20 0) :: ((PySem.Value.int 0 0) :: ((PySem.Value.ref 66) :: ((PySem.Value.int 24 0) :: ((PySem.Value.int 0 0) :: ((PySem.Value.ref 73) :: ((PySem.Value.int 31 0) :: ((PySem.Value.int 0 0) :: ((PySem.Value.ref 78) :: ((PySem.Value.int 33 0) :: ((PySem.Value.int 0 0) :: ((PySem.Value.ref 85) :: ((PySem.Value.int 38 0) :: ((PySem.Value.int 0 0) :: ((PySem.Value.ref 92) :: ((PySem.Value.int 47 0) :: ((PySem.Value.int 0 0) :: ((PySem.Value.ref 113) :: ((PySem.Value.int 64 0) :: ((PySem.Value.int 0 0) :: ((PySem.Value.ref 146) :: ((PySem.Value.int 66 0) :: ((PySem.Value.int 0 0) :: ((PySem.Value.ref 153) :: ((PySem.Value.int 74 0) :: ((PySem.Value.int 0 0) :: ((PySem.Value.ref 160) :: ((PySem.Value.int 79 0) :: ((PySem.Value.int 0 0) :: ((PySem.Value.ref 165) :: ((PySem.Value.int 81 0) :: ((PySem.Value.int 0 0) :: ((PySem.Value.ref 170) :: ((PySem.Value.int 87 0) :: ((PySem.Value.int 0 0) :: ((PySem.Value.ref 177) :: ((PySem.Value.int 93 0) :: ((PySem.Value.int 0 0) :: ((PySem.Value.ref 182) :: [])))))))))))))))))))))))))))))))))))))))))))))))))))))))) (List.toArray [])) ::
    (PySem.Obj.mk (PySem.Value.type "code") none (PySem.Data.fields (List.toArray ((PySem.Value.str (PySem.Str.ofString "<module>") 182) :: ((PySem.Value.str (PySem.Str.ofString "<module>") 183) :: ((PySem.Value.str (PySem.Str.ofString "/claim/cut.py") 184) :: ((PySem.Value.int 1 0) :: ((PySem.Value.int 0 0) :: ((PySem.Value.int 0 0) :: ((PySem.Value.int 0 0) :: ((PySem.Value.int 0 0) :: ((PySem.Value.ref 11) :: ((PySem.Value.bool Bool.false) :: ((PySem.Value.int 181 0) :: ((PySem.Value.ref 12) :: (PySem.Value.none :: (PySem.Value.none :: (PySem.Value.none :: (PySem.Value.none :: ((PySem.Value.int 185 0) :: ((PySem.Value.int 1 0) :: ((PySem.Value.str (PySem.Str.ofString "/claim/cut.py") 186) :: []))))))))))))))))))))) (List.toArray [])) ::
    (PySem.Obj.mk (PySem.Value.type "frame") none PySem.Data.plain (List.toArray ((some (PySem.Value.ref 13)) :: ((some (PySem.Value.ref 3)) :: ((some (PySem.Value.ref 3)) :: (none :: ((some (PySem.Value.str (PySem.Str.ofString "__main__") 164)) :: (none :: ((some (PySem.Value.ref 0)) :: []))))))))) ::
    atK P 15 ::
    (PySem.Obj.mk (PySem.Value.type "builtin_function_or_method") none (PySem.Data.fields (List.toArray ((PySem.Value.builtin "type.__prepare__") :: ((PySem.Value.type "type") :: [])))) (List.toArray [])) ::
    (PySem.Obj.mk (PySem.Value.type "dict") none (PySem.Data.dict (List.toArray ((PySem.DictEntry.mk (PySem.PyData.keyHash P (PySem.Str.ofString "__module__")) (PySem.Value.str (PySem.Str.ofString "__module__") 196) (PySem.Value.str (PySem.Str.ofString "gasledger.errors") 187)) :: ((PySem.DictEntry.mk (PySem.PyData.keyHash P (PySem.Str.ofString "__qualname__")) (PySem.Value.str (PySem.Str.ofString "__qualname__") 198) (PySem.Value.str (PySem.Str.ofString "MachineFault") 197)) :: ((PySem.DictEntry.mk (PySem.PyData.keyHash P (PySem.Str.ofString "__firstlineno__")) (PySem.Value.str (PySem.Str.ofString "__firstlineno__") 200) (PySem.Value.int 2 199)) :: ((PySem.DictEntry.mk (PySem.PyData.keyHash P (PySem.Str.ofString "__init__")) (PySem.Value.str (PySem.Str.ofString "__init__") 208) (PySem.Value.ref 28)) :: ((PySem.DictEntry.mk (PySem.PyData.keyHash P (PySem.Str.ofString "__static_attributes__")) (PySem.Value.str (PySem.Str.ofString "__static_attributes__") 210) (PySem.Value.ref 29)) :: [])))))) 5) (List.toArray [])) ::
    (PySem.Obj.mk (PySem.Value.type "tuple") none (PySem.Data.seq (List.toArray []) 0) (List.toArray [])) ::
    (PySem.Obj.mk PySem.Value.none none (PySem.Data.fields (List.toArray ((PySem.Value.int 4 0) :: ((PySem.Value.int 4 0) :: ((PySem.Value.ref 27) :: []))))) (List.toArray [])) ::
    (PySem.Obj.mk (PySem.Value.type "code") none (PySem.Data.fields (List.toArray ((PySem.Value.str (PySem.Str.ofString "MachineFault") 191) :: ((PySem.Value.str (PySem.Str.ofString "MachineFault") 192) :: ((PySem.Value.str (PySem.Str.ofString "/claim/cut.py") 193) :: ((PySem.Value.int 2 0) :: ((PySem.Value.int 0 0) :: ((PySem.Value.int 0 0) :: ((PySem.Value.int 0 0) :: ((PySem.Value.int 0 0) :: ((PySem.Value.ref 18) :: ((PySem.Value.bool Bool.false) :: ((PySem.Value.int 181 0) :: ((PySem.Value.ref 19) :: (PySem.Value.none :: (PySem.Value.none :: (PySem.Value.none :: (PySem.Value.none :: ((PySem.Value.int 194 0) :: ((PySem.Value.int 2 0) :: ((PySem.Value.str (PySem.Str.ofString "/claim/cut.py") 195) :: []))))))))))))))))))))) (List.toArray [])) ::
    (PySem.Obj.mk (PySem.Value.type "frame") none PySem.Data.plain (List.toArray ((some (PySem.Value.ref 20)) :: ((some (PySem.Value.ref 3)) :: ((some (PySem.Value.ref 17)) :: (none :: ((some (PySem.Value.str (PySem.Str.ofString "gasledger.errors") 187)) :: (none :: ((some (PySem.Value.ref 0)) :: []))))))))) ::
    atK P 22 ::
    (PySem.Obj.mk PySem.Value.none none (PySem.Data.fields (List.toArray [])) (List.toArray [])) ::
    atK P 24 ::
    atK P 25 ::
    (PySem.Obj.mk PySem.Value.none none (PySem.Data.func (PySem.FuncData.mk (PySem.Str.ofString "__init__") (PySem.Str.ofString "MachineFault.__init__") (fnK P 28).params (fnK P 28).body (fnK P 28).scope 0 [] PySem.Value.none PySem.Value.none PySem.Value.none PySem.Value.none none PySem.Value.none PySem.Value.none 0)) (List.toArray [])) ::
    atK P 27 ::
    atK P 28 ::
    atK P 29 ::
    atK P 30 ::
    atK P 31 ::
    atK P 32 ::
    (PySem.Obj.mk (PySem.Value.type "super") none (PySem.Data.fields (List.toArray ((PySem.Value.ref 31) :: ((PySem.Value.ref 31) :: ((PySem.Value.ref 31) :: []))))) (List.toArray [])) ::
    (PySem.Obj.mk (PySem.Value.type "builtin_function_or_method") none (PySem.Data.fields (List.toArray ((PySem.Value.builtin "object.__init_subclass__") :: ((PySem.Value.ref 31) :: [])))) (List.toArray [])) ::
    atK P 35 ::
    (PySem.Obj.mk PySem.Value.none none (PySem.Data.fields (List.toArray [])) (List.toArray [])) ::
    atK P 37 ::
    atK P 38 ::
    (PySem.Obj.mk PySem.Value.none none (PySem.Data.func (PySem.FuncData.mk (PySem.Str.ofString "led") (PySem.Str.ofString "led") (fnK P 41).params (fnK P 41).body (fnK P 41).scope 0 [] PySem.Value.none PySem.Value.none PySem.Value.none PySem.Value.none none PySem.Value.none PySem.Value.none 0)) (List.toArray [])) ::
    atK P 40 ::
    atK P 41 ::
    atK P 42 ::
    (PySem.Obj.mk PySem.Value.none none (PySem.Data.fields (List.toArray [])) (List.toArray [])) ::
    atK P 44 ::
    atK P 45 ::
    (PySem.Obj.mk PySem.Value.none none (PySem.Data.func (PySem.FuncData.mk (PySem.Str.ofString "word_octets") (PySem.Str.ofString "word_octets") (fnK P 48).params (fnK P 48).body (fnK P 48).scope 0 [] PySem.Value.none PySem.Value.none PySem.Value.none PySem.Value.none none PySem.Value.none PySem.Value.none 0)) (List.toArray [])) ::
    atK P 47 ::
    atK P 48 ::
    atK P 49 ::
    (PySem.Obj.mk PySem.Value.none none (PySem.Data.fields (List.toArray [])) (List.toArray [])) ::
    atK P 51 ::
    atK P 52 ::
    (PySem.Obj.mk PySem.Value.none none (PySem.Data.func (PySem.FuncData.mk (PySem.Str.ofString "octets_word") (PySem.Str.ofString "octets_word") (fnK P 55).params (fnK P 55).body (fnK P 55).scope 0 [] PySem.Value.none PySem.Value.none PySem.Value.none PySem.Value.none none PySem.Value.none PySem.Value.none 0)) (List.toArray [])) ::
    atK P 54 ::
    atK P 55 ::
    atK P 56 ::
    (PySem.Obj.mk PySem.Value.none none (PySem.Data.fields (List.toArray [])) (List.toArray [])) ::
    (PySem.Obj.mk PySem.Value.none none (PySem.Data.func (PySem.FuncData.mk (PySem.Str.ofString "places_of") (PySem.Str.ofString "places_of") (fnK P 60).params (fnK P 60).body (fnK P 60).scope 0 [] PySem.Value.none PySem.Value.none PySem.Value.none PySem.Value.none none PySem.Value.none PySem.Value.none 0)) (List.toArray [])) ::
    atK P 59 ::
    atK P 60 ::
    atK P 61 ::
    (PySem.Obj.mk PySem.Value.none none (PySem.Data.fields (List.toArray [])) (List.toArray [])) ::
    atK P 63 ::
    atK P 64 ::
    (PySem.Obj.mk PySem.Value.none none (PySem.Data.func (PySem.FuncData.mk (PySem.Str.ofString "bloom_with") (PySem.Str.ofString "bloom_with") (fnK P 67).params (fnK P 67).body (fnK P 67).scope 0 [] PySem.Value.none PySem.Value.none PySem.Value.none PySem.Value.none none PySem.Value.none PySem.Value.none 0)) (List.toArray [])) ::
    atK P 66 ::
    atK P 67 ::
    atK P 68 ::
    (PySem.Obj.mk PySem.Value.none none (PySem.Data.fields (List.toArray [])) (List.toArray [])) ::
    atK P 70 ::
    atK P 71 ::
    (PySem.Obj.mk PySem.Value.none none (PySem.Data.func (PySem.FuncData.mk (PySem.Str.ofString "bloom_of") (PySem.Str.ofString "bloom_of") (fnK P 74).params (fnK P 74).body (fnK P 74).scope 0 [] PySem.Value.none PySem.Value.none PySem.Value.none PySem.Value.none none PySem.Value.none PySem.Value.none 0)) (List.toArray [])) ::
    atK P 73 ::
    atK P 74 ::
    atK P 75 ::
    (PySem.Obj.mk PySem.Value.none none (PySem.Data.fields (List.toArray [])) (List.toArray [])) ::
    (PySem.Obj.mk PySem.Value.none none (PySem.Data.func (PySem.FuncData.mk (PySem.Str.ofString "may_hold") (PySem.Str.ofString "may_hold") (fnK P 79).params (fnK P 79).body (fnK P 79).scope 0 [] PySem.Value.none PySem.Value.none PySem.Value.none PySem.Value.none none PySem.Value.none PySem.Value.none 0)) (List.toArray [])) ::
    atK P 78 ::
    atK P 79 ::
    atK P 80 ::
    (PySem.Obj.mk PySem.Value.none none (PySem.Data.fields (List.toArray [])) (List.toArray [])) ::
    atK P 82 ::
    atK P 83 ::
    (PySem.Obj.mk PySem.Value.none none (PySem.Data.func (PySem.FuncData.mk (PySem.Str.ofString "bloom_octets") (PySem.Str.ofString "bloom_octets") (fnK P 86).params (fnK P 86).body (fnK P 86).scope 0 [] PySem.Value.none PySem.Value.none PySem.Value.none PySem.Value.none none PySem.Value.none PySem.Value.none 0)) (List.toArray [])) ::
    atK P 85 ::
    atK P 86 ::
    (PySem.Obj.mk (PySem.Value.type "tuple") none (PySem.Data.seq (List.toArray []) 0) (List.toArray [])) ::
    (PySem.Obj.mk (PySem.Value.type "builtin_function_or_method") none (PySem.Data.fields (List.toArray ((PySem.Value.builtin "type.__prepare__") :: ((PySem.Value.type "type") :: [])))) (List.toArray [])) ::
    (PySem.Obj.mk (PySem.Value.type "dict") none (PySem.Data.dict (List.toArray ((PySem.DictEntry.mk (PySem.PyData.keyHash P (PySem.Str.ofString "__module__")) (PySem.Value.str (PySem.Str.ofString "__module__") 301) (PySem.Value.str (PySem.Str.ofString "gasledger.account") 292)) :: ((PySem.DictEntry.mk (PySem.PyData.keyHash P (PySem.Str.ofString "__qualname__")) (PySem.Value.str (PySem.Str.ofString "__qualname__") 303) (PySem.Value.str (PySem.Str.ofString "Log") 302)) :: ((PySem.DictEntry.mk (PySem.PyData.keyHash P (PySem.Str.ofString "__firstlineno__")) (PySem.Value.str (PySem.Str.ofString "__firstlineno__") 305) (PySem.Value.int 38 304)) :: ((PySem.DictEntry.mk (PySem.PyData.keyHash P (PySem.Str.ofString "__init__")) (PySem.Value.str (PySem.Str.ofString "__init__") 315) (PySem.Value.ref 100)) :: ((PySem.DictEntry.mk (PySem.PyData.keyHash P (PySem.Str.ofString "__static_attributes__")) (PySem.Value.str (PySem.Str.ofString "__static_attributes__") 319) (PySem.Value.ref 101)) :: [])))))) 5) (List.toArray [])) ::
    (PySem.Obj.mk (PySem.Value.type "tuple") none (PySem.Data.seq (List.toArray []) 0) (List.toArray [])) ::
    (PySem.Obj.mk PySem.Value.none none (PySem.Data.fields (List.toArray ((PySem.Value.int 40 0) :: ((PySem.Value.int 4 0) :: ((PySem.Value.ref 99) :: []))))) (List.toArray [])) ::
    (PySem.Obj.mk (PySem.Value.type "code") none (PySem.Data.fields (List.toArray ((PySem.Value.str (PySem.Str.ofString "Log") 296) :: ((PySem.Value.str (PySem.Str.ofString "Log") 297) :: ((PySem.Value.str (PySem.Str.ofString "/claim/cut.py") 298) :: ((PySem.Value.int 38 0) :: ((PySem.Value.int 0 0) :: ((PySem.Value.int 0 0) :: ((PySem.Value.int 0 0) :: ((PySem.Value.int 0 0) :: ((PySem.Value.ref 90) :: ((PySem.Value.bool Bool.false) :: ((PySem.Value.int 181 0) :: ((PySem.Value.ref 91) :: (PySem.Value.none :: (PySem.Value.none :: (PySem.Value.none :: (PySem.Value.none :: ((PySem.Value.int 299 0) :: ((PySem.Value.int 38 0) :: ((PySem.Value.str (PySem.Str.ofString "/claim/cut.py") 300) :: []))))))))))))))))))))) (List.toArray [])) ::
    (PySem.Obj.mk (PySem.Value.type "frame") none PySem.Data.plain (List.toArray ((some (PySem.Value.ref 92)) :: ((some (PySem.Value.ref 3)) :: ((some (PySem.Value.ref 89)) :: (none :: ((some (PySem.Value.str (PySem.Str.ofString "gasledger.account") 292)) :: (none :: ((some (PySem.Value.ref 0)) :: []))))))))) ::
    atK P 94 ::
    (PySem.Obj.mk PySem.Value.none none (PySem.Data.fields (List.toArray [])) (List.toArray [])) ::
    atK P 96 ::
    atK P 97 ::
    (PySem.Obj.mk PySem.Value.none none (PySem.Data.func (PySem.FuncData.mk (PySem.Str.ofString "__init__") (PySem.Str.ofString "Log.__init__") (fnK P 100).params (fnK P 100).body (fnK P 100).scope 0 [] PySem.Value.none PySem.Value.none PySem.Value.none PySem.Value.none none PySem.Value.none PySem.Value.none 0)) (List.toArray [])) ::
    atK P 99 ::
    atK P 100 ::
    atK P 101 ::
    atK P 102 ::
    atK P 103 ::
    atK P 104 ::
    atK P 105 ::
    (PySem.Obj.mk (PySem.Value.type "super") none (PySem.Data.fields (List.toArray ((PySem.Value.ref 103) :: ((PySem.Value.ref 103) :: ((PySem.Value.ref 103) :: []))))) (List.toArray [])) ::
    (PySem.Obj.mk (PySem.Value.type "builtin_function_or_method") none (PySem.Data.fields (List.toArray ((PySem.Value.builtin "object.__init_subclass__") :: ((PySem.Value.ref 103) :: [])))) (List.toArray [])) ::
    (PySem.Obj.mk (PySem.Value.type "tuple") none (PySem.Data.seq (List.toArray []) 0) (List.toArray [])) ::
    (PySem.Obj.mk (PySem.Value.type "builtin_function_or_method") none (PySem.Data.fields (List.toArray ((PySem.Value.builtin "type.__prepare__") :: ((PySem.Value.type "type") :: [])))) (List.toArray [])) ::
    (PySem.Obj.mk (PySem.Value.type "dict") none (PySem.Data.dict (List.toArray ((PySem.DictEntry.mk (PySem.PyData.keyHash P (PySem.Str.ofString "__module__")) (PySem.Value.str (PySem.Str.ofString "__module__") 342) (PySem.Value.str (PySem.Str.ofString "gasledger.digests") 327)) :: ((PySem.DictEntry.mk (PySem.PyData.keyHash P (PySem.Str.ofString "__qualname__")) (PySem.Value.str (PySem.Str.ofString "__qualname__") 344) (PySem.Value.str (PySem.Str.ofString "Numbered") 343)) :: ((PySem.DictEntry.mk (PySem.PyData.keyHash P (PySem.Str.ofString "__firstlineno__")) (PySem.Value.str (PySem.Str.ofString "__firstlineno__") 346) (PySem.Value.int 47 345)) :: ((PySem.DictEntry.mk (PySem.PyData.keyHash P (PySem.Str.ofString "__init__")) (PySem.Value.str (PySem.Str.ofString "__init__") 353) (PySem.Value.ref 121)) :: ((PySem.DictEntry.mk (PySem.PyData.keyHash P (PySem.Str.ofString "number")) (PySem.Value.str (PySem.Str.ofString "number") 362) (PySem.Value.ref 128)) :: ((PySem.DictEntry.mk (PySem.PyData.keyHash P (PySem.Str.ofString "of")) (PySem.Value.str (PySem.Str.ofString "of") 373) (PySem.Value.ref 135)) :: ((PySem.DictEntry.mk (PySem.PyData.keyHash P (PySem.Str.ofString "__static_attributes__")) (PySem.Value.str (PySem.Str.ofString "__static_attributes__") 375) (PySem.Value.ref 136)) :: [])))))))) 7) (List.toArray [])) ::
    (PySem.Obj.mk (PySem.Value.type "tuple") none (PySem.Data.seq (List.toArray []) 0) (List.toArray [])) ::
    (PySem.Obj.mk PySem.Value.none none (PySem.Data.fields (List.toArray ((PySem.Value.int 49 0) :: ((PySem.Value.int 4 0) :: ((PySem.Value.ref 120) :: ((PySem.Value.int 52 0) :: ((PySem.Value.int 4 0) :: ((PySem.Value.ref 127) :: ((PySem.Value.int 58 0) :: ((PySem.Value.int 4 0) :: ((PySem.Value.ref 134) :: []))))))))))) (List.toArray [])) ::
    (PySem.Obj.mk (PySem.Value.type "code") none (PySem.Data.fields (List.toArray ((PySem.Value.str (PySem.Str.ofString "Numbered") 337) :: ((PySem.Value.str (PySem.Str.ofString "Numbered") 338) :: ((PySem.Value.str (PySem.Str.ofString "/claim/cut.py") 339) :: ((PySem.Value.int 47 0) :: ((PySem.Value.int 0 0) :: ((PySem.Value.int 0 0) :: ((PySem.Value.int 0 0) :: ((PySem.Value.int 0 0) :: ((PySem.Value.ref 111) :: ((PySem.Value.bool Bool.false) :: ((PySem.Value.int 181 0) :: ((PySem.Value.ref 112) :: (PySem.Value.none :: (PySem.Value.none :: (PySem.Value.none :: (PySem.Value.none :: ((PySem.Value.int 340 0) :: ((PySem.Value.int 47 0) :: ((PySem.Value.str (PySem.Str.ofString "/claim/cut.py") 341) :: []))))))))))))))))))))) (List.toArray [])) ::
    (PySem.Obj.mk (PySem.Value.type "frame") none PySem.Data.plain (List.toArray ((some (PySem.Value.ref 113)) :: ((some (PySem.Value.ref 3)) :: ((some (PySem.Value.ref 110)) :: (none :: ((some (PySem.Value.str (PySem.Str.ofString "gasledger.digests") 327)) :: (none :: ((some (PySem.Value.ref 0)) :: []))))))))) ::
    atK P 115 ::
    (PySem.Obj.mk PySem.Value.none none (PySem.Data.fields (List.toArray [])) (List.toArray [])) ::
    atK P 117 ::
    atK P 118 ::
    (PySem.Obj.mk PySem.Value.none none (PySem.Data.func (PySem.FuncData.mk (PySem.Str.ofString "__init__") (PySem.Str.ofString "Numbered.__init__") (fnK P 121).params (fnK P 121).body (fnK P 121).scope 0 [] PySem.Value.none PySem.Value.none PySem.Value.none PySem.Value.none none PySem.Value.none PySem.Value.none 0)) (List.toArray [])) ::
    atK P 120 ::
    atK P 121 ::
    atK P 122 ::
    (PySem.Obj.mk PySem.Value.none none (PySem.Data.fields (List.toArray [])) (List.toArray [])) ::
    atK P 124 ::
    atK P 125 ::
    (PySem.Obj.mk PySem.Value.none none (PySem.Data.func (PySem.FuncData.mk (PySem.Str.ofString "number") (PySem.Str.ofString "Numbered.number") (fnK P 128).params (fnK P 128).body (fnK P 128).scope 0 [] PySem.Value.none PySem.Value.none PySem.Value.none PySem.Value.none none PySem.Value.none PySem.Value.none 0)) (List.toArray [])) ::
    atK P 127 ::
    atK P 128 ::
    atK P 129 ::
    (PySem.Obj.mk PySem.Value.none none (PySem.Data.fields (List.toArray [])) (List.toArray [])) ::
    atK P 131 ::
    atK P 132 ::
    (PySem.Obj.mk PySem.Value.none none (PySem.Data.func (PySem.FuncData.mk (PySem.Str.ofString "of") (PySem.Str.ofString "Numbered.of") (fnK P 135).params (fnK P 135).body (fnK P 135).scope 0 [] PySem.Value.none PySem.Value.none PySem.Value.none PySem.Value.none none PySem.Value.none PySem.Value.none 0)) (List.toArray [])) ::
    atK P 134 ::
    atK P 135 ::
    atK P 136 ::
    atK P 137 ::
    atK P 138 ::
    atK P 139 ::
    atK P 140 ::
    (PySem.Obj.mk (PySem.Value.type "super") none (PySem.Data.fields (List.toArray ((PySem.Value.ref 138) :: ((PySem.Value.ref 138) :: ((PySem.Value.ref 138) :: []))))) (List.toArray [])) ::
    (PySem.Obj.mk (PySem.Value.type "builtin_function_or_method") none (PySem.Data.fields (List.toArray ((PySem.Value.builtin "object.__init_subclass__") :: ((PySem.Value.ref 138) :: [])))) (List.toArray [])) ::
    atK P 143 ::
    (PySem.Obj.mk PySem.Value.none none (PySem.Data.fields (List.toArray [])) (List.toArray [])) ::
    (PySem.Obj.mk PySem.Value.none none (PySem.Data.func (PySem.FuncData.mk (PySem.Str.ofString "_law_well") (PySem.Str.ofString "_law_well") (fnK P 147).params (fnK P 147).body (fnK P 147).scope 0 [] PySem.Value.none PySem.Value.none PySem.Value.none PySem.Value.none none PySem.Value.none PySem.Value.none 0)) (List.toArray [])) ::
    atK P 146 ::
    atK P 147 ::
    atK P 148 ::
    (PySem.Obj.mk PySem.Value.none none (PySem.Data.fields (List.toArray [])) (List.toArray [])) ::
    atK P 150 ::
    atK P 151 ::
    (PySem.Obj.mk PySem.Value.none none (PySem.Data.func (PySem.FuncData.mk (PySem.Str.ofString "_law_draw") (PySem.Str.ofString "_law_draw") (fnK P 154).params (fnK P 154).body (fnK P 154).scope 0 [] PySem.Value.none PySem.Value.none PySem.Value.none PySem.Value.none none PySem.Value.none PySem.Value.none 0)) (List.toArray [])) ::
    atK P 153 ::
    atK P 154 ::
    atK P 155 ::
    (PySem.Obj.mk PySem.Value.none none (PySem.Data.fields (List.toArray [])) (List.toArray [])) ::
    atK P 157 ::
    atK P 158 ::
    (PySem.Obj.mk PySem.Value.none none (PySem.Data.func (PySem.FuncData.mk (PySem.Str.ofString "_law_number") (PySem.Str.ofString "_law_number") (fnK P 161).params (fnK P 161).body (fnK P 161).scope 0 [] PySem.Value.none PySem.Value.none PySem.Value.none PySem.Value.none none PySem.Value.none PySem.Value.none 0)) (List.toArray [])) ::
    atK P 160 ::
    atK P 161 ::
    atK P 162 ::
    (PySem.Obj.mk PySem.Value.none none (PySem.Data.fields (List.toArray [])) (List.toArray [])) ::
    (PySem.Obj.mk PySem.Value.none none (PySem.Data.func (PySem.FuncData.mk (PySem.Str.ofString "_law_octets") (PySem.Str.ofString "_law_octets") (fnK P 166).params (fnK P 166).body (fnK P 166).scope 0 [] PySem.Value.none PySem.Value.none PySem.Value.none PySem.Value.none none PySem.Value.none PySem.Value.none 0)) (List.toArray [])) ::
    atK P 165 ::
    atK P 166 ::
    atK P 167 ::
    (PySem.Obj.mk PySem.Value.none none (PySem.Data.fields (List.toArray [])) (List.toArray [])) ::
    (PySem.Obj.mk PySem.Value.none none (PySem.Data.func (PySem.FuncData.mk (PySem.Str.ofString "_law_places") (PySem.Str.ofString "_law_places") (fnK P 171).params (fnK P 171).body (fnK P 171).scope 0 [] PySem.Value.none PySem.Value.none PySem.Value.none PySem.Value.none none PySem.Value.none PySem.Value.none 0)) (List.toArray [])) ::
    atK P 170 ::
    atK P 171 ::
    atK P 172 ::
    (PySem.Obj.mk PySem.Value.none none (PySem.Data.fields (List.toArray [])) (List.toArray [])) ::
    atK P 174 ::
    atK P 175 ::
    (PySem.Obj.mk PySem.Value.none none (PySem.Data.func (PySem.FuncData.mk (PySem.Str.ofString "_law_is_refused") (PySem.Str.ofString "_law_is_refused") (fnK P 178).params (fnK P 178).body (fnK P 178).scope 0 [] PySem.Value.none PySem.Value.none PySem.Value.none PySem.Value.none none PySem.Value.none PySem.Value.none 0)) (List.toArray [])) ::
    atK P 177 ::
    atK P 178 ::
    atK P 179 ::
    (PySem.Obj.mk PySem.Value.none none (PySem.Data.fields (List.toArray [])) (List.toArray [])) ::
    (PySem.Obj.mk PySem.Value.none none (PySem.Data.func (PySem.FuncData.mk (PySem.Str.ofString "law") (PySem.Str.ofString "law") (fnK P 183).params (fnK P 183).body (fnK P 183).scope 0 [] PySem.Value.none PySem.Value.none PySem.Value.none PySem.Value.none none PySem.Value.none PySem.Value.none 0)) (List.toArray [])) ::
    atK P 182 ::
    atK P 183 ::
    [])) (PySem.Life.mk [] [] [] 0 [] [] Bool.false (List.toArray []) [] 0 Bool.false Bool.false Bool.false 0 (2000 :: (10 :: (10 :: []))) Bool.false 0 Bool.true [] [] 0 Bool.false)
set_option maxRecDepth 100000 in
set_option maxHeartbeats 8000000 in
theorem hd_run (w : World) : (fun os => Fast.tw14082659384304107361 Fast.tw14364793385576792824 PySem.Challenge.rw_pq0387_01.row.prog w 11 (some (.ref 6)) 1298 ⟨boot_heap w.params, Array.mk [], boot_drawn, boot_toks, os⟩ (topStub PySem.Challenge.rw_pq0387_01.row.prog)) =
    fun os => some (⟨endHeap w.params, Array.mk [], ⟨0, 0, 0, 0⟩, nat_lit 437, os⟩ : Shared) := by
  kernel_rfl
noncomputable abbrev headXt : Shared → Bool := fun s => xlAt hd.view_39 [(Str.ofString "WORD", WData.int 115792089237316195423570985008687907853269984665640564039457584007913129639936), (Str.ofString "LEAST_ADDRESS", WData.int 605153021707326989568713251046585937826284568576)] s && recOk (RowW.records PySem.Challenge.rw_pq0387_01.row.toRowW) s
set_option maxRecDepth 100000 in
set_option maxHeartbeats 8000000 in
theorem hd_size (w : World) : ((boot_heap w.params).isNs mainGlobals && (Array.mk ([] : List GenState)).size == 0, (boot_heap w.params).objs.size, (boot_heap w.params).nsMap mainGlobals "__annotations__") = (true, 11, some (.ref 6)) := by
  kernel_rfl
set_option maxRecDepth 100000 in
set_option maxHeartbeats 8000000 in
theorem hd_kept (w : World) : (fun os => (staticsOk (importedModules PySem.Challenge.rw_pq0387_01.row.prog.main.body) (boot_heap w.params) (endHeap w.params) && namesBound PySem.Challenge.rw_pq0387_01.row.prog (endHeap w.params) && gensDone ⟨endHeap w.params, Array.mk [], ⟨0, 0, 0, 0⟩, nat_lit 437, os⟩ && laidKept (boot_heap w.params) (endHeap w.params))) = fun _ => true := by
  kernel_rfl
set_option maxRecDepth 100000 in
set_option maxHeartbeats 8000000 in
theorem hd_seen (w : World) : (fun os => openSeen hd.view_39 [Str.ofString "WORD", Str.ofString "LEAST_ADDRESS"] (importedModules PySem.Challenge.rw_pq0387_01.row.prog.main.body) headXt true ⟨endHeap w.params, Array.mk [], ⟨0, 0, 0, 0⟩, nat_lit 437, os⟩) = fun _ => openGood hd.view_39 [Str.ofString "WORD", Str.ofString "LEAST_ADDRESS"] := by
  kernel_rfl
set_option maxRecDepth 100000 in
set_option maxHeartbeats 8000000 in
theorem hd_part (w : World) : (fun os => Hook.obs headHook ⟨endHeap w.params, Array.mk [], ⟨0, 0, 0, 0⟩, nat_lit 437, os⟩) = fun _ => Hook.val headHook w := by
  kernel_rfl
set_option maxRecDepth 100000 in
set_option maxHeartbeats 8000000 in
theorem hd_left : LeftO PySem.Challenge.rw_pq0387_01.row.prog hd.view_39 [Str.ofString "WORD", Str.ofString "LEAST_ADDRESS"] headXt (Hook.obs headHook) (Hook.val headHook) 2684 :=
  LeftO.of_pieces (m₀ := 11) (ann := some (.ref 6)) (M := 1298) (H₁ := endHeap) (boot_open plain_start (by decide) no_fence) hd_size (fun w os => by rw [run_twin]; exact congrFun (hd_run w) os) (by decide)
    fun w => by
      funext os
      exact Prod.ext (congrFun (hd_kept w) os) (Prod.ext (congrFun (hd_seen w) os) (congrFun (hd_part w) os))
set_option maxRecDepth 100000 in
set_option maxHeartbeats 8000000 in
theorem hd {d : DefRec} {kwd : List (Str × Expr)} (hdef : defOf hd.view_39 PySem.Challenge.rw_pq0387_01.row.name = some (d, kwd)) (hp : PySem.Challenge.rw_pq0387_01.row.prog.theDef PySem.Challenge.rw_pq0387_01.row.name = some (d.params, d.body, d.scope)) (hk : kwWritten? d.params.kwonlyargs d.params.kw_defaults = some kwd)
    (T : WalkO hd.view_39 [Str.ofString "WORD", Str.ofString "LEAST_ADDRESS"] (XL hd.view_39 [(Str.ofString "WORD", WData.int 115792089237316195423570985008687907853269984665640564039457584007913129639936), (Str.ofString "LEAST_ADDRESS", WData.int 605153021707326989568713251046585937826284568576)]) (Hook.says headHook) PySem.Challenge.rw_pq0387_01.row.toRowW d kwd fun f vs => PySem.call f vs) : PySem.Challenge.rw_pq0387_01.Holds := by
  w_on
  o_law
  refine holds_open (q := hd.view_39) hd_left (Hook.of headHook) (Hook.keeps headHook) (fun s e => xl_of s (Bool.and_eq_true_iff.mp e).1) XL.keeps hdef hp hk (fun s e => recFacts_of (Bool.and_eq_true_iff.mp e).2) rfl (by assumption) (by decide +kernel) ⟨rfl, rfl, rfl, rfl, rfl, by decide +kernel⟩ ?hw T
  case hw => w_witness2
theorem room_le {a k n : Nat} (h : a + n < recursionLimit) (g : k ≤ n) : a + k < recursionLimit := Nat.lt_of_le_of_lt (Nat.add_le_add_left g a) h
theorem roomB_le {a j k n : Nat} (h : a + n < recursionLimit) (g : j + k ≤ n) : a + j + k < recursionLimit := Nat.add_assoc a j k ▸ Nat.lt_of_le_of_lt (Nat.add_le_add_left g a) h
theorem line_le {a k n : Nat} (h : a + n < cLine) (g : k ≤ n) : a + k < cLine := Nat.lt_of_le_of_lt (Nat.add_le_add_left g a) h
theorem lineB_le {a j k n : Nat} (h : a + n < cLine) (g : j + k ≤ n) : a + j + k < cLine := Nat.add_assoc a j k ▸ Nat.lt_of_le_of_lt (Nat.add_le_add_left g a) h
local macro_rules | `(tactic| ktr_room) => `(tactic| first | exact room_le (by assumption) (by decide) | exact roomB_le (by assumption) (by decide))
local macro_rules | `(tactic| ktr_units) => `(tactic| first | exact line_le (by assumption) (by decide) | exact lineB_le (by assumption) (by decide))
local macro_rules | `(tactic| units_room) => `(tactic| ktr_units)
local macro_rules | `(tactic| k_room) => `(tactic| ktr_room)
local macro_rules | `(tactic| k_all) => `(tactic| with_reducible assumption)
local macro_rules | `(tactic| walk_at "own up") => `(tactic| first | with_reducible assumption | (refine Nat.lt_trans (by with_reducible assumption) ?_; walk_at "own up"))
local macro_rules | `(tactic| walk_at "own lo") => `(tactic| first | walk_at "own up" | (with_reducible rename _ < _ ∧ _ => h9; first | exact h9.1 | exact h9.2.1 | exact h9.2.2.1 | exact h9.2.2.2.1 | exact h9.2.2.2.2.1 | exact h9.2.2.2.2.2.1 | exact h9.2.2.2.2.2.2.1 | exact h9.2.2.2.2.2.2.2.1 | exact h9.2.2.2.2.2.2.2.2.1 | exact h9.2.2.2.2.2.2.2.2.2.1 | exact h9.2.2.2.2.2.2.2.2.2.2.1 | exact h9.2.2.2.2.2.2.2.2.2.2.2.1 | exact h9.2.2.2.2.2.2.2.2.2.2.2.2.1 | exact h9.2.2.2.2.2.2.2.2.2.2.2.2.2.1 | exact h9.2.2.2.2.2.2.2.2.2.2.2.2.2.2.1 | exact h9.2.2.2.2.2.2.2.2.2.2.2.2.2.2.2.1 | exact h9.2 | exact h9.2.2 | exact h9.2.2.2 | exact h9.2.2.2.2 | exact h9.2.2.2.2.2 | exact h9.2.2.2.2.2.2 | exact h9.2.2.2.2.2.2.2 | exact h9.2.2.2.2.2.2.2.2 | exact h9.2.2.2.2.2.2.2.2.2 | exact h9.2.2.2.2.2.2.2.2.2.2 | exact h9.2.2.2.2.2.2.2.2.2.2.2 | exact h9.2.2.2.2.2.2.2.2.2.2.2.2 | exact h9.2.2.2.2.2.2.2.2.2.2.2.2.2 | exact h9.2.2.2.2.2.2.2.2.2.2.2.2.2.2 | exact h9.2.2.2.2.2.2.2.2.2.2.2.2.2.2.2 | (clear h9; walk_at "own lo")))
local macro_rules | `(tactic| walk_at "own ne") => `(tactic| first | with_reducible assumption | (with_reducible rename _ ≠ _ ∧ _ => h9; first | exact h9.1 | exact h9.2.1 | exact h9.2.2.1 | exact h9.2.2.2.1 | exact h9.2.2.2.2.1 | exact h9.2.2.2.2.2.1 | exact h9.2.2.2.2.2.2.1 | exact h9.2.2.2.2.2.2.2.1 | exact h9.2.2.2.2.2.2.2.2.1 | exact h9.2.2.2.2.2.2.2.2.2.1 | exact h9.2.2.2.2.2.2.2.2.2.2.1 | exact h9.2.2.2.2.2.2.2.2.2.2.2.1 | exact h9.2.2.2.2.2.2.2.2.2.2.2.2.1 | exact h9.2.2.2.2.2.2.2.2.2.2.2.2.2.1 | exact h9.2.2.2.2.2.2.2.2.2.2.2.2.2.2.1 | exact h9.2.2.2.2.2.2.2.2.2.2.2.2.2.2.2.1 | exact h9.2 | exact h9.2.2 | exact h9.2.2.2 | exact h9.2.2.2.2 | exact h9.2.2.2.2.2 | exact h9.2.2.2.2.2.2 | exact h9.2.2.2.2.2.2.2 | exact h9.2.2.2.2.2.2.2.2 | exact h9.2.2.2.2.2.2.2.2.2 | exact h9.2.2.2.2.2.2.2.2.2.2 | exact h9.2.2.2.2.2.2.2.2.2.2.2 | exact h9.2.2.2.2.2.2.2.2.2.2.2.2 | exact h9.2.2.2.2.2.2.2.2.2.2.2.2.2 | exact h9.2.2.2.2.2.2.2.2.2.2.2.2.2.2 | exact h9.2.2.2.2.2.2.2.2.2.2.2.2.2.2.2 | (clear h9; walk_at "own ne")))
local macro_rules | `(tactic| k_ne) => `(tactic| (refine neN ?_; (try dsimp only); omega))
local macro_rules | `(tactic| k_ne) => `(tactic| ((try dsimp only); with_reducible first | walk_at "own ne" | (refine Ne.symm ?_; walk_at "own ne") | (refine Nat.ne_of_lt ?_; walk_at "own lo") | (refine Nat.ne_of_gt ?_; walk_at "own lo")))
local macro_rules | `(tactic| k_lt $h:ident) => `(tactic| (replace $h := allLt_of $h; dsimp only [AllLt] at $h:ident))
local macro_rules | `(tactic| lcg_off) => `(tactic| (simp only [LCg.Off3, and_true]; with_reducible assumption))
local macro_rules | `(tactic| lcg_src) => `(tactic| (with_unfolding_all (show (_, _) ∈ _); k_mem))
section
open PySem.Calls
theorem upd_mem {d : Addr} {o o' : Obj} {l l' : List (Addr × Obj)} (U : Upd d o o' l l') : ∀ p ∈ l', p = (d, o') ∨ (p ∈ l ∧ p.1 ≠ d) := by
  induction U with
  | head h =>
    intro p hp
    rcases List.mem_cons.mp hp with rfl | hp
    · exact .inl rfl
    · exact .inr ⟨.tail _ hp, h p hp⟩
  | tail h _ ih =>
    intro p hp
    rcases List.mem_cons.mp hp with rfl | hp
    · exact .inr ⟨.head _, h⟩
    · rcases ih p hp with e | ⟨e1, e2⟩
      · exact .inl e
      · exact .inr ⟨.tail _ e1, e2⟩
/-- the ledger less one address -/
def less (d : Addr) (l : List (Addr × Obj)) : List (Addr × Obj) := l.filter fun p => decide (p.1 ≠ d)
theorem less_ne {d : Addr} {l : List (Addr × Obj)} : ∀ p ∈ less d l, p.1 ≠ d := fun p hp => by
  have := (List.mem_filter.mp hp).2
  simpa using this
theorem less_mem {d : Addr} {l : List (Addr × Obj)} : ∀ p ∈ less d l, p ∈ l := fun _ hp => (List.mem_filter.mp hp).1
theorem mem_less {d : Addr} {l : List (Addr × Obj)} {p : Addr × Obj} (h : p ∈ l) (hn : p.1 ≠ d) : p ∈ less d l := List.mem_filter.mpr ⟨h, by simpa using hn⟩
theorem gnNe_to {d : Addr} {l : List (Addr × Obj)} (h : GnNe d l) : ∀ p ∈ l, p.1 ≠ d := by
  induction l with
  | nil => intro p hp; cases hp
  | cons x r ih =>
    intro p hp
    rcases List.mem_cons.mp hp with e | hp
    · rw [e]; exact h.1
    · exact ih h.2 p hp
theorem allLt_to {d : Addr} {l : List (Addr × Obj)} (h : AllLt d l) : ∀ p ∈ l, p.1 < d := by
  induction l with
  | nil => intro p hp; cases hp
  | cons x r ih =>
    intro p hp
    rcases List.mem_cons.mp hp with e | hp
    · rw [e]; exact h.1
    · exact ih h.2 p hp
section
variable {prog : Program} {w : World} {A A₀ : Around} {E : Value → Shared → Prop} {s : Shared} {K : Frag} {C L : Addr} {h₀ base : Heap} {m mg mb : Str → Option Value} {news : List (Addr × Obj)} {p : Program} {loose : List Str} {mean : ExcName → Option Value}
/-- a call entered, what the ledger does not name kept as it stands -/
theorem code_defP {env : Env} {outer : List Env} {R : Result → Shared → Prop} {name qual : Str} {params : Arguments} {body : List Stmt} {scope : Scope} {dV kV doc pm cdv ct oc : Value} {an od : Option Addr} {osl : Array (Option Value)} {f : Addr} {args : Args} {binds : List (Str × Value)}
    (B : Below A₀ base outer h₀) (F : Fr h₀ L s.heap m) (X₀ : K.In h₀) (N : News h₀ L s.heap news) (T : Top p loose mean mg mb h₀) (hA : A.frames = some (env :: outer)) (hf : env.frame = some L) (hke : env.scope.kind = .function)
    (ho : K.lookup f = some ⟨oc, od, .func (fnOf name qual params body scope dV kV doc pm an cdv ct), osl⟩) (hcd : codeIn K cdv qual = true) (hroom : A.depth < recursionLimit)
    (hbind : BindsTo s (fnOf name qual params body scope dV kV doc pm an cdv ct) args binds) (hloc : ∀ y ∈ binds, scope.names.lookup y.1 = some .local)
    (h : ∀ g L' h₁, Fr h₀ L g m → Fr g L' h₁ (fun y => binds.reverse.lookup y) → News g L' h₁ news → Below A base (env :: outer) g → K.In g → Top p loose mean mg mb g →
      (∀ b o, s.heap.get? b = some o → b ∉ news.map (·.1) → g.get? b = some o) → (∀ b o, s.heap.get? b = some o → b < L') →
      wpAny (model prog w) (A.deeper (envOf qual scope L' f cdv)) (execs body (envOf qual scope L' f cdv))
        (fun fl s' => LeaveK h₀ L m g R (match fl with | .ret v => v | _ => .none) s')
        (fun e s' => wpAny (model prog w) (A.deeper (envOf qual scope L' f cdv)) (leaving (envOf qual scope L' f cdv) e) (fun _ s'' => R (.error e) s'') (fun e' s'' => R (.error e') s'') s')
        { s with heap := h₁, toks := s.toks + binds.length })
    (hco : scope.isCoroutine = false) (hgen : scope.isGenerator = false) (hk : scope.kind = .function)
    (hcell : ∀ x ∈ scope.names, x.2 ≠ .cell) : codeAny (model prog w) A (.call (.ref f) args) R s := by
  obtain ⟨FG, BG, st, lv⟩ := groundX (R := R) B F N hA hf hke
  refine codeAny_call_def (fd := fnX name qual params body scope [] dV kV doc pm an cdv ct) (body := body) (binds := binds) hroom ((X₀.keeps F.keep) _ _ ho) rfl (T.nolimit.keeps F.keep) (codeRec_of (X₀.keeps F.keep) hcd) rfl hbind hcell hloc (fun h₁ hns hk₁ => ?_) hco hgen hk
  exact wpAny_mono (h _ s.heap.objs.size h₁ FG ⟨hns, fun b o e => hk₁ b o (of_hideAll _ e), Nat.le_of_eq (hideAll_size _ _)⟩
    (fun p hp => ⟨hk₁ _ _ (N p hp).1, Nat.ne_of_lt (Heap.lt_size (N p hp).1), hideAll_none _ (List.mem_map_of_mem hp)⟩) BG (X₀.keeps st) (T.keeps st) (fun b o e hn => hideAll_get _ e hn) (fun b o e => Heap.lt_size e)) (fun fl s' hl => lv _ _ hl) fun _ _ y => y
theorem code_defCP {env : Env} {outer : List Env} {R : Result → Shared → Prop} {name qual : Str} {params : Arguments} {body : List Stmt} {scope : Scope} {dV kV doc pm cdv ct oc : Value} {an od : Option Addr} {osl : Array (Option Value)} {f : Addr} {args : Args} {binds : List (Str × Value)}
    (B : Below A₀ base outer h₀) (F : Fr h₀ L s.heap m) (X₀ : K.In h₀) (N : News h₀ L s.heap news) (T : Top p loose mean mg mb h₀) (hA : A.frames = some (env :: outer)) (hf : env.frame = some L) (hke : env.scope.kind = .function)
    (ho : K.lookup f = some ⟨oc, od, .func (fnOf name qual params body scope dV kV doc pm an cdv ct), osl⟩) (hcd : codeIn K cdv qual = true) (hroom : A.depth < recursionLimit)
    (hbind : BindsTo s (fnOf name qual params body scope dV kV doc pm an cdv ct) args binds) (hkind : (binds.all fun y => scope.names.lookup y.1 == some .local || scope.names.lookup y.1 == some .cell) = true)
    (hnd : ((cellsFrom 0 scope.names []).map (·.1)).Nodup)
    (h : ∀ g L' h₁ tk cells, Fr h₀ L g m → Fr g L' h₁ (bindL (envOfC qual scope L' f cdv).kindOf binds fun _ => none) → News g L' h₁ (cells ++ news) →
      CellsAre (bindC (envOfC qual scope L' f cdv).kindOf binds fun _ => none) (cellsFrom (L' + 1) scope.names []) cells → Below A base (env :: outer) g → K.In g → Top p loose mean mg mb g → (∀ p ∈ news, p.1 < L') →
      (∀ b o, s.heap.get? b = some o → b ∉ news.map (·.1) → g.get? b = some o) → (∀ b o, s.heap.get? b = some o → b < L') →
      wpAny (model prog w) (A.deeper (envOfC qual scope L' f cdv)) (execs body (envOfC qual scope L' f cdv))
        (fun fl s' => LeaveK h₀ L m g R (match fl with | .ret v => v | _ => .none) s')
        (fun e s' => wpAny (model prog w) (A.deeper (envOfC qual scope L' f cdv)) (leaving (envOfC qual scope L' f cdv) e) (fun _ s'' => R (.error e) s'') (fun e' s'' => R (.error e') s'') s')
        { s with heap := h₁, toks := tk })
    (hco : scope.isCoroutine = false) (hgen : scope.isGenerator = false) (hk : scope.kind = .function) : codeAny (model prog w) A (.call (.ref f) args) R s := by
  obtain ⟨FG, BG, st, lv⟩ := groundX (R := R) B F N hA hf hke
  refine codeAny_call_function hroom ((X₀.keeps F.keep) _ _ ho) (fd := fnX name qual params body scope [] dV kV doc pm an cdv ct) rfl hco hgen rfl (codeRec_of (X₀.keeps F.keep) hcd) (hbind _ _ _ _ ?_)
  refine wpAny_newFunctionEnv_cells hk (kindsX hkind _) fun env' he s' x => ?_
  subst he
  refine ⟨(T.nolimit.keeps F.keep).keeps x.toInCall.keep, codeAny_func ?_⟩
  obtain ⟨h₁, tk, rfl, _⟩ := x.done
  have hk₁ := x.toInCall.keep
  obtain ⟨cells, NC, Y⟩ := Cl.news (h₀ := s.heap) (Nat.le_refl _) fun n c hm => ⟨x.cell n c (lookup_of_mem_nodup (cellsFrom_names scope.names 0 (s.heap.objs.size + 1) [] [] rfl ▸ hnd) hm), x.above n c hm⟩
  refine wpAny_mono (h _ s.heap.objs.size h₁ tk cells FG ⟨x.toInCall.ns, fun b o e => hk₁ b o (of_hideAll _ e), Nat.le_of_eq (hideAll_size _ _)⟩ (fun p hp => ?_) Y BG (X₀.keeps st) (T.keeps st) (fun p hp => Heap.lt_size (N p hp).1) (fun b o e hn => hideAll_get _ e hn) (fun b o e => Heap.lt_size e)) (fun fl s' hl => lv _ _ hl) fun _ _ y => y
  rcases List.mem_append.mp hp with hp | hp
  · refine ⟨(NC p hp).1, (NC p hp).2.1, ?_⟩
    cases q : (hideAll s.heap (news.map (·.1))).get? p.1 with
    | none => rfl
    | some o => have := of_hideAll _ q; rw [(NC p hp).2.2] at this; cases this
  · exact ⟨hk₁ _ _ (N p hp).1, Nat.ne_of_lt (Heap.lt_size (N p hp).1), hideAll_none _ (List.mem_map_of_mem hp)⟩
end
/-- what was kept out of a callee's ledger stands behind it -/
theorem news_back {h₀ h h' g : Heap} {L L' : Addr} {m' : Str → Option Value} {news rest : List (Addr × Obj)} (F' : Fr g L' h' m') (kG : ∀ b o, h.get? b = some o → b ∉ news.map (·.1) → g.get? b = some o)
    (N : News h₀ L h rest) (hn : ∀ p ∈ rest, p.1 ∉ news.map (·.1)) : News h₀ L h' rest := fun p hp => ⟨F'.keep _ _ (kG _ _ (N p hp).1 (hn p hp)), (N p hp).2⟩
/-- the ledger at large behind a callee that turned one object of a few -/
theorem news_turn {h₀ h h' : Heap} {L d : Addr} {o o' : Obj} {news news' few few' : List (Addr × Obj)} (N : News h₀ L h news) (M : News h₀ L h few) (M' : News h₀ L h' few')
    (kept : ∀ p ∈ news, p.1 ∉ few.map (·.1) → h'.get? p.1 = some p.2) (same : ∀ p ∈ few, p.1 ≠ d → p ∈ few') (hd : (d, o') ∈ few') (U : Upd d o o' news news') : News h₀ L h' news' := fun p hp => by
  rcases upd_mem U p hp with rfl | ⟨h1, h2⟩
  · exact M' _ hd
  · by_cases hf : p.1 ∈ few.map (·.1)
    · obtain ⟨q, hq, e⟩ := List.mem_map.mp hf
      have e2 : q.2 = p.2 := Option.some.inj ((M q hq).1.symm.trans ((congrArg h.get? e).trans (N p h1).1))
      have : q = p := Prod.ext e e2
      subst this
      exact M' _ (same _ hq h2)
    · exact ⟨kept p h1 hf, (N p h1).2⟩
/-- a thing made within a callee is none of the caller's -/
theorem new_off {h₀ h h' g : Heap} {L L' l : Addr} {o : Obj} {news few inner : List (Addr × Obj)} (N : News h₀ L h news) (kG : ∀ b o, h.get? b = some o → b ∉ few.map (·.1) → g.get? b = some o)
    (M : News g L' h' ((l, o) :: inner)) (hf : ∀ p ∈ few, p.1 ≠ l) : ∀ p ∈ news, p.1 ≠ l := fun p hp e => by
  by_cases hm : p.1 ∈ few.map (·.1)
  · obtain ⟨q, hq, e2⟩ := List.mem_map.mp hm
    exact hf q hq (e2.trans e)
  · have h1 := kG _ _ (N p hp).1 hm
    have h2 := (M _ (.head _)).2.2
    rw [e] at h1
    rw [h2] at h1
    cases h1
theorem news_app {h₀ h : Heap} {L : Addr} {a b : List (Addr × Obj)} (N : News h₀ L h a) (M : News h₀ L h b) : News h₀ L h (a ++ b) := fun p hp => (List.mem_append.mp hp).elim (N p) (M p)
theorem news_cons {h₀ h : Heap} {L : Addr} {x : Addr × Obj} {b : List (Addr × Obj)} (N : News h₀ L h [x]) (M : News h₀ L h b) : News h₀ L h (x :: b) := news_app N M
end
section
open PySem.Calls
open PySem.Builtin.Int (intBits)
/-- a number's octets, the greatest first -/
def octs (k : Nat) (n : Int) : List Int := (List.range k).map fun j => n / 256 ^ (k - 1 - j) % 256
theorem octs_length (k : Nat) (n : Int) : (octs k n).length = k := by simp [octs]
theorem octs_in {k : Nat} {n : Int} : ∀ x ∈ octs k n, 0 ≤ x ∧ x < 256 := fun x hx => by
  obtain ⟨j, _, rfl⟩ := List.mem_map.mp hx
  exact ⟨Int.emod_nonneg _ (by decide), Int.emod_lt_of_pos _ (by decide)⟩
theorem octs_little (k : Nat) (n : Int) : (KTBy.little k n).reverse = octs k n := by
  rw [KTBy.little_eq]
  unfold octs
  refine List.ext_getElem (by simp) fun i h1 h2 => ?_
  simp
theorem slot_dunder : Slot "bytes" "__bytes__" "bytes.__bytes__" :=
  .of (owner := "bytes") (n := "__bytes__") (by rw [typeLookup_type, builtinLookup_eq_fast]; kernel_rfl) (by decide +kernel) (by decide +kernel) (by decide +kernel)
    (by first | exact .inl (by decide +kernel) | exact .inr (by decide +kernel)) (by rw [isSubtype_type]; kernel_rfl)
section
variable {prog : Program} {w : World} {A : Around} {E : Value → Shared → Prop} {s : Shared} {Q : Value → Shared → Prop} {b : Array UInt8} {t : Tok}
/-- bytes of bytes is the thing itself -/
theorem bytes_same (h : Q (.bytes b t) s) : wpAny (model prog w) A (call (.type "bytes") [.bytes b t]) Q E s := by
  refine callType_codes (Q₁ := fun obj s₁ => s₁.TypeIs obj "bytes" ∧ Q obj s₁) F.bm_called (F.bm_typeCall _) F.entry_object_init ?_ fun obj s₁ h₁ => ?_
  · refine codeAny_of_tree ?_
    show wpAny _ A.in1.in1 (do checkBuiltinCall "bytes.__new__" ⟨[.type "bytes", .bytes b t], []⟩; again (.builtin "bytes.__new__" ⟨[.type "bytes", .bytes b t], []⟩)) _ _ s
    refine wpAny_bind (wpAny_of_eq (F.bm_newCall _) (wpAny_pure ⟨plainId_quiet F.bm_plain _, codeAny_builtin F.bm_entry ?_⟩))
    rw [Around.under_plainId F.bm_plain _]
    unfold Builtin.«bytes.__new__»
    refine wpAny_bind (wpAny_of_eq (a := true) rfl ?_)
    refine bm_if_false rfl ?_
    refine wpAny_bind (wpAny_of_eq F.bm_sub ?_)
    refine bm_if_false rfl ?_
    refine wpAny_bind (wpAny_of_eq (F.bm_bind _) ?_)
    refine wpAny_bind (wpAny_of_eq (a := ()) rfl ?_)
    refine wpAny_bind (wpAny_of_eq (a := ()) rfl ?_)
    refine bm_if_false rfl ?_
    refine wpAny_bind (wpAny_specialOf (typeIs_bytes s b t) slot_dunder.lookup ?_)
    refine wpAny_bind (wpAny_rule ?_)
    refine wpAny_bind (wpAny_of_eq (a := Value.type "bytes") rfl ?_)
    refine bm_if_true (by decide) ?_
    exact wpAny_pure ⟨typeIs_bytes s b t, h⟩
  · exact ⟨h₁.1, F.args_object_init_2 obj _, object_init_meets F.bm_called.init.lookup F.bm_called.made (by decide) prog w A.in1 _ s₁ ⟨h₁.1, rfl, h₁.2⟩⟩
theorem grown_wide {n k : Nat} (hn : n < 256 ^ k) (hk : k ≤ 300) (h : Q (.int (n : Int) s.toks) { s with toks := s.toks + 1 }) : wpAny (model prog w) A (mkIntGrown (n : Int)) Q E s := by
  unfold mkIntGrown
  have hl : ¬ ((n : Int).natAbs.log2 ≥ bitsLine) := by
    rw [Int.natAbs_natCast]
    have hb : bitsLine = 134217728 := by first | rfl | decide
    rw [hb]
    by_cases hz : n = 0
    · subst hz
      decide
    · have e : (256 : Nat) = 2 ^ 8 := by decide
      rw [e, ← Nat.pow_mul] at hn
      have := (Nat.log2_lt hz).mpr hn
      omega
  rw [if_neg hl]
  exact wpAny_mkInt h
theorem wide_big {u : Tok} {P : Fin → Shared → Prop} (hl : b.size ≤ 300) (h : P (.done (.ret (.int (KFB.value (KBw.bInts b)) s.toks))) { s with toks := s.toks + 1 }) :
    wpAny (model prog w) A (Builtin.«int.from_bytes» ⟨[.type "int", .bytes b t, .str (PySem.Str.ofString "big") u], []⟩) P E s := by
  have hv := KFB.fold_cast b.toList 0
  have hn : b.toList.foldl (fun (acc : Nat) (b : UInt8) => acc * 256 + b.toNat) 0 < 256 ^ b.size := by
    have := KFB.fold_lt b.toList 0
    simpa using this
  unfold Builtin.«int.from_bytes»
  refine wpAny_bind (wpAny_of_eq (a := true) KFB.type_int ?_)
  refine KFB.if_not rfl ?_
  refine wpAny_bind (wpAny_of_eq (a := true) F.conv_sub_int ?_)
  refine KFB.if_not rfl ?_
  refine wpAny_bind (wpAny_of_eq (a := [some (.bytes b t), some (.str (PySem.Str.ofString "big") u), none]) (by kernel_rfl) ?_)
  refine wpAny_bind (wpAny_of_eq (a := PySem.Str.ofString "big") (by kernel_rfl) ?_)
  refine wpAny_bind (wpAny_of_eq (a := false) rfl ?_)
  refine wpAny_bind (wpAny_of_eq (a := false) (by kernel_rfl) ?_)
  refine wpAny_bind (wpAny_of_eq (a := b) rfl ?_)
  show wpAny _ _ (mkIntGrown (b.toList.foldl (fun (acc : Int) (b : UInt8) => acc * 256 + (b.toNat : Int)) ((0 : Nat) : Int)) >>= fun v => _) _ _ _
  rw [KFB.foldI_eq]
  refine wpAny_bind (grown_wide hn hl ?_)
  rw [hv]
  refine KFB.if_so (by decide +kernel) ?_
  exact wpAny_bind (wpAny_pure (wpAny_pure h))
theorem fb_wide {x L : Addr} {h₀ : Heap} {news : List (Addr × Obj)} {u : Tok} {ks : List Int} (N : News h₀ L s.heap news) (hm : (x, KFB.bound) ∈ news) (hb : KBw.bInts b = ks) (hl : ks.length ≤ 300)
    (h : ∀ t' k, Q (.int (KFB.value ks) t') { s with toks := k }) : wpAny (model prog w) A (call (.ref x) [.bytes b t, .str (PySem.Str.ofString "big") u]) Q E s := by
  subst hb
  exact KFB.call_of (KFB.at_of N hm) (fun z => wide_big (by rw [← KBw.ints_length]; exact hl) z) (h _ _)
/-- an int's octets, of any width -/
theorem tb_wide {x K : Int} {k : Nat} {t u v : Tok} (hK : K = (k : Int)) (hk : k ≤ 300) (h0 : 0 ≤ x) (h1 : x < 256 ^ k) (h : ∀ (b : Array UInt8) t' k', KBw.bInts b = octs k x → Q (.bytes b t') { s with toks := k' }) :
    wpAny (model prog w) A (call (.builtin "int.to_bytes") [.int x t, .int K u, .str (PySem.Str.ofString "big") v]) Q E s := by
  subst hK
  have hbits : intBits x ≤ 8 * k := KTBy.bits_le rfl h0 h1
  refine wpAny_call_entry KTBy.slot (typeIs_int s x t) KTBy.entry ?_ (KTBy.args _ _ _)
  show wpAny _ _ (Builtin.Int.intOfSelf (.int x t) >>= fun y => _) _ _ s
  refine wpAny_bind (wpAny_of_eq (a := x) rfl ?_)
  show wpAny _ _ (Builtin.Int.intBindNamed "to_bytes" ["length", "byteorder", "signed"] 0 2 [.int (k : Int) u, .str (PySem.Str.ofString "big") v] [] >>= fun l => _) _ _ s
  refine wpAny_bind (wpAny_of_eq (a := [some (.int (k : Int) u), some (.str (PySem.Str.ofString "big") v), none]) (by kernel_rfl) ?_)
  show wpAny _ _ (Builtin.Int.intIndex "int.to_bytes" (.int (k : Int) u) >>= fun n => _) _ _ s
  refine wpAny_bind (wpAny_of_eq (a := (k : Int)) rfl ?_)
  refine KTBy.if_not (Bool.or_eq_false_iff.mpr ⟨decide_eq_false (by omega), decide_eq_false (by omega)⟩) ?_
  refine wpAny_bind (wpAny_of_eq (a := PySem.Str.ofString "big") (by kernel_rfl) ?_)
  refine wpAny_bind (wpAny_of_eq (a := false) rfl ?_)
  refine wpAny_bind (wpAny_of_eq (a := false) (by kernel_rfl) ?_)
  refine wpAny_ite_false (decide_eq_false (by omega)) ?_
  refine wpAny_ite_false (decide_eq_false (by omega)) ?_
  refine wpAny_ite_false (decide_eq_false (by rw [sizeLine_eq]; omega)) ?_
  refine KTBy.if_not (Bool.and_eq_false_iff.mpr (.inl (decide_eq_false (by omega)))) ?_
  refine KTBy.if_not (Bool.and_eq_false_iff.mpr (.inr (decide_eq_false ?hbb))) ?_
  case hbb => show ¬ ((intBits x : Int) > 8 * (k : Int)); omega
  refine wpAny_bind (wpAny_mkBytes (wpAny_pure ⟨_, rfl, h _ _ _ ?_⟩) (by show (List.reverse (KTBy.low x (Int.toNat (k : Int)))).length ≤ sizeLine; rw [List.length_reverse, KTBy.low_length, Int.toNat_natCast, sizeLine_eq]; omega))
  show (List.map (fun c : UInt8 => ((c.toNat : Nat) : Int)) (List.reverse (KTBy.low x (Int.toNat (k : Int))))) = octs k x
  rw [Int.toNat_natCast, List.map_reverse, KTBy.low_ints h0 h1, ← KTBy.little_eq, octs_little]
end
end
section
open PySem.Calls
/-- the numbers stand in the order of their asking -/
def Tidy (c : List (Int × Int)) : Prop := ∀ (i : Nat) p, c[i]? = some p → p.2 = (i : Int) + 1
def Knows (c : List (Int × Int)) (k n : Int) : Prop := kdfHas c k = true ∧ kdfLook c k 0 = n
/-- what a further asking may do to the table -/
def Further (c c' : List (Int × Int)) : Prop := Tidy c' ∧ c.length ≤ c'.length ∧ ∀ k n, Knows c k n → Knows c' k n
theorem Further.refl {c : List (Int × Int)} (h : Tidy c) : Further c c := ⟨h, Nat.le_refl _, fun _ _ h => h⟩
theorem Further.trans {c d e : List (Int × Int)} (h : Further c d) (g : Further d e) : Further c e := ⟨g.1, Nat.le_trans h.2.1 g.2.1, fun k n q => g.2.2 k n (h.2.2 k n q)⟩
theorem tidy_nil : Tidy [] := fun i p h => by simp at h
theorem put_new {c : List (Int × Int)} {k v : Int} (h : kdfHas c k = false) : kdfPut c k v = c ++ [(k, v)] := by
  unfold kdfPut
  rw [if_neg (by rw [show (c.any fun p => decide (p.1 = k)) = kdfHas c k from rfl, h]; decide)]
theorem tidy_put {c : List (Int × Int)} {k : Int} (h : kdfHas c k = false) (T : Tidy c) : Tidy (kdfPut c k ((c.length : Int) + 1)) := by
  rw [put_new h]
  intro i p hp
  rcases Nat.lt_trichotomy i c.length with q | q | q
  · rw [List.getElem?_append_left q] at hp; exact T i p hp
  · subst q; simp at hp; rw [← hp]
  · rw [List.getElem?_eq_none (by simp; omega)] at hp; cases hp
theorem knows_put {c : List (Int × Int)} {k v : Int} (h : kdfHas c k = false) : ∀ k' n, Knows c k' n → Knows (kdfPut c k v) k' n := by
  rw [put_new h]
  rintro k' n ⟨a, b⟩
  unfold kdfHas at a
  refine ⟨by unfold kdfHas; rw [List.any_append, a]; rfl, ?_⟩
  unfold kdfLook at b ⊢
  rw [List.find?_append]
  cases hf : c.find? (fun p => decide (p.1 = k')) with
  | none =>
    rw [List.find?_eq_none] at hf
    obtain ⟨x, hx, hy⟩ := List.any_eq_true.mp a
    exact absurd hy (hf x hx)
  | some x => rw [hf] at b; exact b
theorem knows_new {c : List (Int × Int)} {k v : Int} (h : kdfHas c k = false) : Knows (kdfPut c k v) k v := by
  rw [put_new h]
  unfold kdfHas at h
  refine ⟨by unfold kdfHas; rw [List.any_append]; simp, ?_⟩
  unfold kdfLook
  rw [List.find?_append]
  have : c.find? (fun p => decide (p.1 = k)) = none := by
    rw [List.find?_eq_none]
    intro x hx hy
    have : c.any (fun p => decide (p.1 = k)) = true := List.any_eq_true.mpr ⟨x, hx, hy⟩
    rw [h] at this; cases this
  rw [this]
  simp
theorem further_put {c : List (Int × Int)} {k : Int} (h : kdfHas c k = false) (T : Tidy c) : Further c (kdfPut c k ((c.length : Int) + 1)) :=
  ⟨tidy_put h T, by rw [put_new h]; simp, knows_put h⟩
theorem put_length {c : List (Int × Int)} {k v : Int} (h : kdfHas c k = false) : (kdfPut c k v).length = c.length + 1 := by rw [put_new h]; simp
theorem knows_in {c : List (Int × Int)} {k n : Int} (T : Tidy c) (h : Knows c k n) : 1 ≤ n ∧ n ≤ c.length := by
  obtain ⟨a, b⟩ := h
  unfold kdfHas at a
  unfold kdfLook at b
  cases hf : c.find? (fun p => decide (p.1 = k)) with
  | none =>
    rw [List.find?_eq_none] at hf
    obtain ⟨x, hx, hy⟩ := List.any_eq_true.mp a
    exact absurd hy (hf x hx)
  | some x =>
    rw [hf] at b
    obtain ⟨i, hi⟩ := List.getElem?_of_mem (List.mem_of_find?_eq_some hf)
    have := T i x hi
    have hl : i < c.length := (List.getElem?_eq_some_iff.mp hi).1
    simp at b
    omega
theorem Knows.det {c : List (Int × Int)} {k n n' : Int} (h : Knows c k n) (h' : Knows c k n') : n = n' := h.2.symm.trans h'.2
/-- the key of some octets -/
def keyOf (bs : List Int) : Int := KFB.value (1 :: bs)
def placesOf (ks : List Int) (bits : Int) : List Int := [(ks.getD 0 0 * 256 + ks.getD 1 0) % 2 ^ bits.toNat, (ks.getD 2 0 * 256 + ks.getD 3 0) % 2 ^ bits.toNat, (ks.getD 4 0 * 256 + ks.getD 5 0) % 2 ^ bits.toNat]
theorem ints3 {a b c a' b' c' : Int} {t u v : Tok} (e1 : a = a') (e2 : b = b') (e3 : c = c') : IntsAre [.int a t, .int b u, .int c v] [a', b', c'] := by
  subst e1 e2 e3
  exact .cons _ _ (.cons _ _ (.cons _ _ .nil))
/-- the same places as naturals -/
def spots (ks : List Int) (bits : Int) : List Nat := (placesOf ks bits).map Int.toNat
theorem ints3_inv {vs : List Value} {a b c : Int} (h : IntsAre vs [a, b, c]) : ∃ t u v, vs = [.int a t, .int b u, .int c v] := by
  cases h with
  | cons _ _ h => cases h with
    | cons _ _ h => cases h with
      | cons _ _ h => cases h with
        | nil => exact ⟨_, _, _, rfl⟩
theorem spots_inv {vs : List Value} {ks : List Int} {bits : Int} (h : IntsAre vs (placesOf ks bits)) (hb : bits ≤ 11) : ∃ (p q r : Nat) (t u v : Tok), vs = [.int (p : Int) t, .int (q : Int) u, .int (r : Int) v] ∧ spots ks bits = [p, q, r] ∧ p < 2048 ∧ q < 2048 ∧ r < 2048 := by
  obtain ⟨t, u, v, rfl⟩ := ints3_inv h
  have hp : (0 : Int) < 2 ^ bits.toNat := Int.pow_pos (by decide)
  have hl : (2 : Int) ^ bits.toNat ≤ 2048 := by
    have h1 : (2 : Nat) ^ bits.toNat ≤ 2 ^ 11 := Nat.pow_le_pow_right (by decide) (by omega)
    have h2 : (2 : Int) ^ bits.toNat = ((2 ^ bits.toNat : Nat) : Int) := by rw [Int.natCast_pow]; rfl
    rw [h2]
    omega
  have key : ∀ z : Int, ((z % 2 ^ bits.toNat).toNat : Int) = z % 2 ^ bits.toNat ∧ (z % 2 ^ bits.toNat).toNat < 2048 := fun z => by
    have h1 := Int.emod_nonneg z (Int.ne_of_gt hp)
    have h2 := Int.emod_lt_of_pos z hp
    omega
  refine ⟨_, _, _, t, u, v, ?_, rfl, (key _).2, (key _).2, (key _).2⟩
  rw [(key _).1, (key _).1, (key _).1]
theorem spots_lt {ks : List Int} {bits : Int} (p : Nat) (h : p ∈ spots ks bits) : p < 2 ^ bits.toNat := by
  have hp : (0 : Int) < 2 ^ bits.toNat := Int.pow_pos (by decide)
  have h2 : (2 : Int) ^ bits.toNat = ((2 ^ bits.toNat : Nat) : Int) := by rw [Int.natCast_pow]; rfl
  have key : ∀ z : Int, (z % 2 ^ bits.toNat).toNat < 2 ^ bits.toNat := fun z => by
    have h3 := Int.emod_nonneg z (Int.ne_of_gt hp)
    have h4 := Int.emod_lt_of_pos z hp
    rw [h2] at h3 h4 ⊢
    omega
  obtain ⟨z, hz, rfl⟩ := List.mem_map.mp h
  unfold placesOf at hz
  simp only [List.mem_cons, List.not_mem_nil, or_false] at hz
  rcases hz with rfl | rfl | rfl <;> exact key _
def orAll (B : Nat) (qs : List Nat) : Nat := qs.foldl (fun b q => b ||| 2 ^ q) B
theorem bitOr_nat (a b : Nat) : Builtin.bitOr (a : Int) (b : Int) = ((a ||| b : Nat) : Int) := by
  unfold Builtin.bitOr
  have e : Builtin.bitAnd (Builtin.bitNot (a : Int)) (Builtin.bitNot (b : Int)) = Builtin.bitNot ((a ||| b : Nat) : Int) := by
    unfold Builtin.bitAnd
    have h1 : decide (0 ≤ Builtin.bitNot (a : Int)) = false := decide_eq_false (by unfold Builtin.bitNot; omega)
    have h2 : decide (0 ≤ Builtin.bitNot (b : Int)) = false := decide_eq_false (by unfold Builtin.bitNot; omega)
    rw [h1, h2]
    have h3 : ∀ n : Nat, (Builtin.bitNot (Builtin.bitNot (n : Int))).toNat = n := fun n => by unfold Builtin.bitNot; omega
    show Builtin.bitNot (((Builtin.bitNot (Builtin.bitNot (a : Int))).toNat ||| (Builtin.bitNot (Builtin.bitNot (b : Int))).toNat : Nat) : Int) = _
    rw [h3, h3]
  rw [e]
  unfold Builtin.bitNot
  omega
theorem bitOr_pow (a q : Nat) : Builtin.bitOr (a : Int) (1 * 2 ^ ((q : Nat) : Int).toNat) = ((a ||| 2 ^ q : Nat) : Int) := by
  have e : (1 * 2 ^ ((q : Nat) : Int).toNat : Int) = ((2 ^ q : Nat) : Int) := by rw [Int.one_mul, Int.toNat_natCast, Int.natCast_pow]; rfl
  rw [e, bitOr_nat]
/-- the table's object bears c -/
def Bears (w : World) (o : Obj) (c : List (Int × Int)) : Prop := ∃ kvs, o.IsDictOf (PySem.intKind PySem.Challenge.rw_pq0387_01.row.prog w) kvs ∧ PyProof.V.FlatPairs PyData.int kvs (kdfD c)
theorem six {ks : List Int} (h : ks.length = 32) : ∃ a b c d e f r, ks = a :: b :: c :: d :: e :: f :: r := by
  match ks, h with
  | a :: b :: c :: d :: e :: f :: r, _ => exact ⟨a, b, c, d, e, f, r, rfl⟩
theorem pair0 {ks : List Int} (h : ks.length = 32) : KFB.value (List.take (clipAt ks.length (0 + 2) - clipAt ks.length 0) (List.drop (clipAt ks.length 0) ks)) = ks.getD 0 0 * 256 + ks.getD 1 0 := by
  obtain ⟨a, b, c, d, e, f, r, rfl⟩ := six h
  rw [h, show clipAt 32 (0 + 2) = 2 from by decide, show clipAt 32 0 = 0 from by decide]
  simp [KFB.value]
theorem pair2 {ks : List Int} (h : ks.length = 32) : KFB.value (List.take (clipAt ks.length (2 + 2) - clipAt ks.length 2) (List.drop (clipAt ks.length 2) ks)) = ks.getD 2 0 * 256 + ks.getD 3 0 := by
  obtain ⟨a, b, c, d, e, f, r, rfl⟩ := six h
  rw [h, show clipAt 32 (2 + 2) = 4 from by decide, show clipAt 32 2 = 2 from by decide]
  simp [KFB.value]
theorem pair4 {ks : List Int} (h : ks.length = 32) : KFB.value (List.take (clipAt ks.length (4 + 2) - clipAt ks.length 4) (List.drop (clipAt ks.length 4) ks)) = ks.getD 4 0 * 256 + ks.getD 5 0 := by
  obtain ⟨a, b, c, d, e, f, r, rfl⟩ := six h
  rw [h, show clipAt 32 (4 + 2) = 6 from by decide, show clipAt 32 4 = 4 from by decide]
  simp [KFB.value]
theorem fmod_bits (a bits : Int) : a.fmod (1 * 2 ^ bits.toNat) = a % 2 ^ bits.toNat := by
  rw [Int.one_mul, Int.fmod_eq_emod_of_nonneg _ (Int.le_of_lt (Int.pow_pos (by decide)))]
end
section
open PySem.Calls
section
variable {prog : Program} {w : World} {A : Around} {E : Value → Shared → Prop} {s : Shared} {h₀ : Heap} {L : Addr} {m : Str → Option Value} {env : Env}
/-- a comprehension's source is a tuple that the call has made -/
def SrcT (prog : Program) (w : World) (A : Around) (h₀ : Heap) (L : Addr) (m : Str → Option Value) (env : Env) (elt : Expr) (x : Str) (scope : Scope) (cl : List (Str × Addr)) (Fin : Shared → List Value → List (Addr × Obj) → Prop) (xv : Value) (s₁ : Shared) : Prop :=
  ∃ ax its k news, xv = .ref ax ∧ A.handled = none ∧ Fr h₀ L s₁.heap m ∧ News h₀ L s₁.heap news ∧ (ax, ({ cls := .type "tuple", data := .seq its k } : Obj)) ∈ news ∧ its.size ≤ sizeLine ∧
    ∀ s₂ : Shared, (∃ h, s₂ = { s₁ with heap := h }) → LCg.CompRest prog w A h₀ L m env elt x scope cl s₂ (fun nw => (ax, ({ cls := .type "tuple", data := .seq its k } : Obj)) ∈ nw) (fun i v => its[i]? = some v) (Fin s₂) its.size 0 [] news
theorem SrcT.intro {elt : Expr} {x : Str} {scope : Scope} {cl : List (Str × Addr)} {Fin : Shared → List Value → List (Addr × Obj) → Prop} {ax : Addr} {its : Array Value} {k : Nat} {news : List (Addr × Obj)} {s₁ : Shared}
    (hh : A.handled = none) (F : Fr h₀ L s₁.heap m) (N : News h₀ L s₁.heap news) (hm : (ax, ({ cls := .type "tuple", data := .seq its k } : Obj)) ∈ news) (hsz : its.size ≤ sizeLine)
    (h : ∀ g, LCg.CompRest prog w A h₀ L m env elt x scope cl { s₁ with heap := g } (fun nw => (ax, ({ cls := .type "tuple", data := .seq its k } : Obj)) ∈ nw) (fun i v => its[i]? = some v) (Fin { s₁ with heap := g }) its.size 0 [] news) :
    SrcT prog w A h₀ L m env elt x scope cl Fin (.ref ax) s₁ := ⟨ax, its, k, news, rfl, hh, F, N, hm, hsz, fun _ ⟨g, e⟩ => e ▸ h g⟩
theorem ListComp_Tu {elt iter : Expr} {x : Str} {px : Pos} {scope : Scope} {cl : List (Str × Addr)} {pos : Pos} {Q : Value → Shared → Prop} (F₀ : Fr h₀ L s.heap m)
    (hclos : closureFor scope env = pure cl) (hcell : ∀ y ∈ scope.names, y.2 ≠ .cell) (hkind : scope.kind = .function)
    (hnames : ∀ y ∈ scope.names, y.2 = .local → scope.names.lookup y.1 = some .local) (hx : scope.names.lookup x = some .local)
    (h : wpAny (model prog w) A (eval iter env) (SrcT prog w A h₀ L m env elt x scope cl (fun s₂ => LCg.FinE h₀ L m s₂ Q)) E s)
    (hs : ∀ x, foldedSetIterable iter env x = pure x := by intro _; rfl) :
    wpAny (model prog w) A (eval (.ListComp elt [⟨.Name x px, iter, [], 0⟩] scope pos) env) Q E s := by
  rw [eval_ListComp]
  refine wpAny_comprehension_free (use := none) rfl hs hclos hkind hnames (wpAny_mono h (fun xv s₁ h₁ => ?_) fun _ _ e => e)
  obtain ⟨ax, its, k, news, rfl, hh, F, N, hm, hsz, R⟩ := h₁
  have hl : s₁.heap.IsTuple ax its := ⟨_, (N _ hm).1, rfl, _, rfl⟩
  have hlt : ax < s₁.heap.objs.size := Heap.lt_size (N _ hm).1
  refine wpAny_pyIter_tuple hl ?_
  have up : ∀ b o, s₁.heap.get? b = some o → (s₁.heap.push { cls := .type "tuple_iterator", data := .fields #[.ref ax, .int 0 0] }).get? b = some o := fun b o e => Heap.get?_push_of_some _ e
  refine LCg.block_U (Walks.tuple hh s₁.heap.objs.size ax (Nat.ne_of_lt hlt) its) hsz (fun i h st => by obtain ⟨o, e, _⟩ := st.1; exact ⟨o, e⟩)
    (fun i h h' o nw st e e' _ M S => ⟨by obtain ⟨o', q, r⟩ := st.1; rw [e] at q; cases q; exact ⟨o, e', r⟩, ⟨_, (M _ S).1, rfl, _, rfl⟩⟩) hcell hkind hx ⟨⟨_, Heap.get?_push_size _ rfl, rfl, rfl⟩, ⟨_, up _ _ (N _ hm).1, rfl, _, rfl⟩⟩ (fun b hb => ?_)
    (F.keeps up) (N.grown up) (Nat.ne_of_lt F.ns.lt) (next_is_new F) (fun p hp => Nat.ne_of_lt (Heap.lt_size (N p hp).1)) hm (R _ ⟨_, rfl⟩) ?_
  · show b < (s₁.heap.push _).objs.size
    rw [Heap.size_push]
    rcases List.mem_cons.mp hb with rfl | hb
    · exact Nat.lt_succ_self _
    · rw [List.mem_singleton.mp hb]; exact Nat.lt_succ_of_lt hlt
  · intro D C h tk m' ys news' F' N' o1 hn hC₀ hD₀ hCL hDL hCD offC fin
    refine ⟨m', hn, fun h'' hs'' => fin D h'' tk (F'.change hs'' hCL hC₀) (fun p hp => ?_) o1⟩
    refine ⟨hs''.extBut _ _ ?_ (N' p hp).1, (N' p hp).2⟩
    rcases List.mem_cons.mp hp with rfl | hp
    · exact Ne.symm hCD
    · exact offC p hp
end
end
section
open PySem.Calls
/-- a fault as its class's maker leaves it -/
abbrev faultObj (d : Option Addr) (t : Addr) : Obj := { cls := .ref 31, dict := d, data := .fields #[.ref t, .none, .none, .none, .bool false, .none] }
abbrev faultCls : Obj := excClassObj (Str.ofString "MachineFault") (Str.ofString "MachineFault") 31 30 [.type "Exception"] [.type "Exception", .type "BaseException", .type "object"] true [] [] false none none (some (.ref 15)) none (some (.str (Str.ofString "MachineFault") 189)) (some (.str (Str.ofString "MachineFault") 197)) (some (.bool true)) "Exception.__new__"
structure FaultIn (h : Heap) : Prop where
  cls : h.get? 31 = some faultCls
  ns : ∃ mN, h.Ns 30 mN ∧ mN "__init__" = some (.ref 28) ∧ mN "__setattr__" = none ∧ mN (Str.ofString "word") = none
  fn : ∃ o, h.get? 28 = some o ∧ o.cls = .type "function"
theorem fault_in {w : World} {h : Heap} (X : (hd.heap_39 w.params).In h) : FaultIn h := by
  refine ⟨X _ _ (by with_unfolding_all rfl), ?_, ⟨_, X _ _ (by with_unfolding_all rfl), rfl⟩⟩
  have o : h.get? 30 = some _ := X _ _ (by with_unfolding_all rfl)
  refine ⟨_, ⟨_, _, _, o, rfl, ?_, fun n => rfl⟩, ?_, ?_, ?_⟩
  · intro e he
    simp only [List.mem_toArray, List.mem_cons, List.not_mem_nil, or_false] at he
    rcases he with rfl | rfl | rfl | rfl | rfl | rfl <;> exact ⟨_, _, rfl⟩
  · with_unfolding_all rfl
  · with_unfolding_all rfl
  · with_unfolding_all rfl
theorem FaultIn.keeps {h h' : Heap} (x : FaultIn h) (k : ∀ b o, h.get? b = some o → h'.get? b = some o) : FaultIn h' := by
  obtain ⟨mN, hn, a, b, c⟩ := x.ns
  obtain ⟨o, ho, hc⟩ := x.fn
  exact ⟨k _ _ x.cls, ⟨mN, hn.keeps k, a, b, c⟩, ⟨o, k _ _ ho, hc⟩⟩
section
variable {prog : Program} {w : World} {A : Around} {E : Value → Shared → Prop} {s : Shared} {h₀ : Heap} {L : Addr} {m : Str → Option Value} {news : List (Addr × Obj)}
theorem news_new {h' : Heap} {e : Addr} {o : Obj} (F : Fr h₀ L s.heap m) (N : News h₀ L s.heap news) (k : ∀ b o, s.heap.get? b = some o → h'.get? b = some o) (ho : h'.get? e = some o) (hn : s.heap.get? e = none) :
    News h₀ L h' ((e, o) :: news) := fun p hp => by
  rcases List.mem_cons.mp hp with rfl | hp
  · refine ⟨ho, fun q => ?_, ?_⟩
    · obtain ⟨oL, _, _, hL, _⟩ := F.ns
      rw [show e = L from q, hL] at hn; cases hn
    · cases q : h₀.get? e with
      | none => rfl
      | some o' => rw [F.keep _ _ q] at hn; cases hn
  · exact ⟨k _ _ (N p hp).1, (N p hp).2⟩
/-- the making of a fault, up to its own __init__ -/
theorem call_fault {vs : List Value} {Q : Value → Shared → Prop} (F : Fr h₀ L s.heap m) (N : News h₀ L s.heap news) (X : FaultIn s.heap) (hz : vs.length ≤ sizeLine)
    (h : ∀ e t h', Fr h₀ L h' m → News h₀ L h' ((e, faultObj none t) :: news) → (∀ p ∈ news, p.1 ≠ e) →
      wpAny (model prog w) (A.under (.builtin "type.__call__" ⟨.ref 31 :: vs, []⟩)) (call (.ref 28) (.ref e :: vs)) (fun r s' => r = .none ∧ Q (.ref e) s') E { s with heap := h' }) :
    wpAny (model prog w) A (call (.ref 31) vs) Q E s := by
  obtain ⟨mN, hn, hi, _, _⟩ := X.ns
  obtain ⟨oI, hfI, hfc⟩ := X.fn
  obtain ⟨hp, g, d, tk, os⟩ := s
  refine wpAny_call_exc_init (hrest := hz) PySem.F.excBase_Exception X.cls hn hi hfI hfc fun h' e hm => ?_
  obtain ⟨t, he, _, _⟩ := hm.there
  refine h e t h' (F.keeps hm.keeps) (news_new (s := ⟨hp, g, d, tk, os⟩) F N hm.keeps he hm.new) fun p hp' q => ?_
  have := (N p hp').1
  rw [q] at this
  rw [hm.new] at this
  cases this
/-- Exception.__init__ of a fault -/
theorem exc_init {e t : Addr} {x : Value} {Q : Value → Shared → Prop} (F : Fr h₀ L s.heap m) (X : FaultIn s.heap) {rest : List (Addr × Obj)} (N : News h₀ L s.heap ((e, faultObj none t) :: rest)) (hoff : ∀ p ∈ rest, p.1 ≠ e)
    (h : ∀ t' h', Fr h₀ L h' m → News h₀ L h' ((e, faultObj none t') :: (t', { cls := .type "tuple", data := .seq #[x] }) :: rest) → t' ≠ e → Q .none { s with heap := h' }) :
    wpAny (model prog w) A (call (.builtin "Exception.__init__") [.ref e, x]) Q E s := by
  have he := (N _ (.head _)).1
  have FB := PySem.F.excBase_Exception
  obtain ⟨hp, g, d, tk, os⟩ := s
  refine wpAny_call (codeAny_call_builtin FB.init.plain FB.initEntry (wpAny_check_init_sub FB X.cls he rfl ?_))
  wp_walk
  have hne : hp.objs.size ≠ e := Nat.ne_of_gt (Heap.lt_size he)
  have N1 := News.push F N ({ cls := Value.type "tuple", data := Data.seq #[x] } : Obj)
  obtain ⟨U1, U2⟩ := news_upd (f := Obj.mapFields fun x => x.setIfInBounds 0 (Value.ref hp.objs.size)) (pre := [(hp.objs.size, ({ cls := Value.type "tuple", data := Data.seq #[x] } : Obj))]) (o' := faultObj none hp.objs.size) (F.push _) N1 (fun p h => by rw [List.mem_singleton.mp h]; exact hne) hoff rfl rfl
  refine h hp.objs.size _ U1 (fun p hp' => U2 p ?_) hne
  rcases List.mem_cons.mp hp' with rfl | hp'
  · exact .tail _ (.head _)
  · rcases List.mem_cons.mp hp' with rfl | hp'
    · exact .head _
    · exact .tail _ (.tail _ hp')
/-- a store of the fault's word -/
theorem set_word {e t : Addr} {v : Value} {Q : Unit → Shared → Prop} (F : Fr h₀ L s.heap m) (X : FaultIn s.heap) {rest : List (Addr × Obj)} (N : News h₀ L s.heap ((e, faultObj none t) :: rest)) (hoff : ∀ p ∈ rest, p.1 ≠ e)
    (h : ∀ d h' tk', Fr h₀ L h' m → News h₀ L h' ((e, faultObj d t) :: rest) → Q () { s with heap := h', toks := tk' }) :
    wpAny (model prog w) A (setAttr (.ref e) (Str.ofString "word") v) Q E s := by
  have he := (N _ (.head _)).1
  obtain ⟨mN, hn, _, hs, hw⟩ := X.ns
  have h31 : e ≠ 31 := fun q => by rw [q, X.cls] at he; cases he
  obtain ⟨hp, g, d, tk, os⟩ := s
  refine store_attr (mA := fun _ => none) (ns := []) PySem.F.store_Exception X.cls hn hs hw (by rw [typeLookup_type, builtinLookup_eq_fast]; kernel_rfl) h31 ⟨_, he, rfl, (fun _ q => nomatch q), .inl ⟨rfl, fun _ => rfl⟩⟩ (fun h' tk' I' hk hsame => ?_) ?_
  · obtain ⟨o₁, a1, a2, a3, a4, _⟩ := hsame _ he
    have e1 : o₁ = faultObj o₁.dict t := by
      obtain ⟨c1, c2, c3, c4⟩ := o₁
      dsimp only at a2 a3 a4
      subst a2 a3 a4
      rfl
    rw [e1] at a1
    have kp : ∀ b o, b ≠ e → hp.get? b = some o → h'.get? b = some o := fun b o hb ho => hk b o hb (fun o₀ dx q1 q2 => by rw [he] at q1; cases q1; cases q2) ho
    obtain ⟨hL1, hL2⟩ : e ≠ L ∧ h₀.get? e = none := (N _ (.head _)).2
    refine h o₁.dict h' tk' ⟨F.ns.at' fun o ho => kp _ _ (Ne.symm hL1) ho, fun b o hb => kp b o (fun q => by rw [q, hL2] at hb; cases hb) (F.keep b o hb), F.above⟩ fun p hp' => ?_
    rcases List.mem_cons.mp hp' with rfl | hp'
    · exact ⟨a1, hL1, hL2⟩
    · exact ⟨kp _ _ (hoff p hp') (N p (.tail _ hp')).1, (N p (.tail _ hp')).2⟩
  · within_ways
set_option maxRecDepth 100000 in
theorem getm_exc {K : Frag} {pl : Sem Bool} {Q : Value × List Value → Shared → Prop} (F : Fr h₀ L s.heap m) (X₀ : K.In h₀)
    (e : findCls K (.type "Exception") (.type "type") (Str.ofString "__init__") = some (.val (.builtin "Exception.__init__")))
    (h : Q (.builtin "Exception.__init__", []) { s with toks := s.toks + 1 }) :
    wpAny (model prog w) A (getMethod (.type "Exception") (Str.ofString "__init__") pl) Q E s := by
  have X := X₀.keeps F.keep
  have hstub : opaqueClassAbove (.type "Exception") = pure none := by unfold opaqueClassAbove; dsimp only; rw [show Manifest.isStub "Exception" = false by decide +kernel]; rfl
  have ht : typeOf (.type "Exception") = pure (.type "type") := by first | rfl | kernel_rfl
  have L0 : Looks (model prog w) s.heap (typeOf (.type "Exception")) (.type "type") := Looks.of_pure ht
  have hg : findIn K (.type "type") "__getattribute__" = some (some (.builtin "type.__getattribute__")) := type_tga
  unfold getMethod specialOf
  refine wpAny_bind (wpAny_bind (L0.here ((looks_findIn X hg).here ?_)))
  dsimp only
  rw [if_pos canon_tga]
  refine wpAny_bind (wpAny_mono (Q := fun v => Q (v, [])) (E := E) ?_ (fun _ _ z => wpAny_pure z) fun _ _ z => z)
  have hhd : handedIn (.builtin "Exception.__init__") = true := by decide +kernel
  refine cls_open X (Looks.of_pure hstub) L0 hg (looks_hook X (r := none) (by rfl)) (by show subIn K _ _ = _; rfl) e ?_
  exact wpAny_pure (handed_on hhd h)
/-- what a raise of a fault must bring -/
def FaultAt (E : Value → Shared → Prop) (v : Value) (s₁ : Shared) : Prop := ∃ e d t, v = .ref e ∧ s₁.heap.get? e = some (faultObj d t) ∧ s₁.heap.get? 31 = some faultCls ∧ E (.ref e) s₁
theorem FaultAt.intro {e t : Addr} {d : Option Addr} {s₁ : Shared} (N : News h₀ L s₁.heap news) (hm : (e, faultObj d t) ∈ news) (X : FaultIn s₁.heap) (h : E (.ref e) s₁) : FaultAt E (.ref e) s₁ := ⟨e, d, t, rfl, (N _ hm).1, X.cls, h⟩
theorem raise_fault {env : Env} {ex : Expr} {pos : Pos} {Q : Flow → Shared → Prop} (hh : A.handled = none) (h : wpAny (model prog w) A (eval ex env) (FaultAt E) E s) :
    wpAny (model prog w) A (exec (.Raise (some ex) none pos) env) Q E s := by
  show wpAny (model prog w) A (do standAt pos; raiseStmt env (some (do let v ← eval ex env; standAt pos; pure v)) none) Q E s
  refine wpAny_bind (wpAny_standAt ?_)
  unfold raiseStmt
  refine wpAny_bind (wpAny_mono (wpAny_bind (wpAny_mono h (fun v s₁ h₁ => wpAny_bind (wpAny_standAt (wpAny_pure h₁))) fun _ _ x => x)) (fun v s₁ h₁ => ?_) fun _ _ x => x)
  obtain ⟨e, dd, t, rfl, he, hC, hE⟩ := h₁
  obtain ⟨hp, g, d, tk, os⟩ := s₁
  have hcB : (Value.ref 31 :: [Value.type "Exception", Value.type "BaseException", Value.type "object"]).contains (.type "BaseException") = true := by decide
  repeat (first | with_reducible refine wpAny_loadPart_at he ?_ | with_reducible refine wpAny_loadPart_at hC ?_ | (with_reducible refine wpAny_isSubtype_exc hC ?_; rw [hcB]) | wp_step)
  exact wpAny_raiseNew_none hh hE
end
section
variable {M : Model} {A : Around} {E : Value → Shared → Prop} {s' : Shared} {base g : Heap} {outer : List Env} {L a e t : Addr} {d : Option Addr} {m : Str → Option Value} {name : Str} {scope : Scope} {cd : Value} {Q : Unit → Shared → Prop} {news : List (Addr × Obj)}
theorem leave_fault {x : Value} (K : Below A base outer g) (F : Fr g L s'.heap m) (N : News g L s'.heap news) (hm : (e, faultObj d t) ∈ news) (ht : (t, ({ cls := .type "tuple", data := .seq #[x] } : Obj)) ∈ news) (hte : t ≠ e)
    (hQ : ∀ h', RaisedS base g outer e (.ref 31) t [x] [] h' → g.UpToSlots h' → Q () { s' with heap := h' }) (hk : scope.kind = .function := by rfl) :
    wpAny M (A.deeper (envOf name scope L a cd)) (leaving (envOf name scope L a cd) (.ref e)) Q E s' := by
  have K' := K.push (name := name) (a := a) (cd := cd) F hk
  obtain ⟨he, heL, heg⟩ := N _ hm
  obtain ⟨hte', htL, htg⟩ := N _ ht
  have heb : base.get? e = none := fresh_of_stays K.stays heg
  have htb : base.get? t = none := fresh_of_stays K.stays htg
  have inf : ∀ b, b ∈ e :: t :: (envOf name scope L a cd :: outer).filterMap (·.frame) → b = e ∨ b = t ∨ b ∈ (envOf name scope L a cd :: outer).filterMap (·.frame) := fun b hb => by
    rcases List.mem_cons.mp hb with h | h
    · exact .inl h
    · rcases List.mem_cons.mp h with h | h
      · exact .inr (.inl h)
      · exact .inr (.inr h)
  have hin : ∀ env ∈ (envOf name scope L a cd :: outer), ∀ b, env.frame = some b → b ∈ e :: t :: (envOf name scope L a cd :: outer).filterMap (·.frame) := fun env he b hb => .tail _ (.tail _ (List.mem_filterMap.mpr ⟨env, he, hb⟩))
  have st : base.StaysIn (hideAll s'.heap (e :: t :: (envOf name scope L a cd :: outer).filterMap (·.frame))) := fun b o q => hideAll_get _ (K'.stays b o q) fun hm => by
    rcases inf b hm with rfl | rfl | hm
    · rw [heb] at q; cases q
    · rw [htb] at q; cases q
    · rw [(K'.frames.mem hm).1] at q; cases q
  have sg : ∀ b o, g.get? b = some o → b ∉ outer.filterMap (·.frame) → (hideAll s'.heap (e :: t :: (envOf name scope L a cd :: outer).filterMap (·.frame))).get? b = some o := fun b o q nm => hideAll_get _ (F.keep b o q) fun hm => by
    rcases inf b hm with rfl | rfl | hm
    · rw [heg] at q; cases q
    · rw [htg] at q; cases q
    · rcases kts_mem hm with z | z
      · rw [z, kts_self F] at q
        cases q
      · exact nm z
  refine wpAny_leaving_firstW (a0 := .ref t) K'.stack (funFrames_hide K'.frames hin) rfl he (fun b o hb => of_hideAll _ hb) (hideAll_none _ (.head _)) rfl rfl rfl fun h' hL => ?_
  obtain ⟨k1, ⟨_, _, k2⟩, k3, k4⟩ := hL
  exact hQ h' ⟨⟨_, st, sg, fun _ h => (nomatch h), ⟨k1, hideAll_none _ (.head _), k2, k3⟩, hideAll_none _ (.tail _ (.head _))⟩, Heap.TupAt.of_slots ⟨_, _, hte', rfl, rfl⟩ k4⟩ ((Heap.UpToSlots.of_keeps F.keep).trans k4)
end
section
variable {prog : Program} {w : World} {A A₀ : Around} {E : Value → Shared → Prop} {s : Shared} {K : Frag} {L : Addr} {h₀ base : Heap} {m mg mb : Str → Option Value} {p : Program} {loose : List Str} {mean : ExcName → Option Value}
/-- a def that catches, entered from the outermost frame -/
theorem code_defT {env : Env} {R : Result → Shared → Prop} {name qual : Str} {params : Arguments} {body : List Stmt} {scope : Scope} {dV kV doc pm cdv ct oc : Value} {an od : Option Addr} {osl : Array (Option Value)} {f : Addr} {args : Args} {binds : List (Str × Value)}
    (B : Below A₀ base [] h₀) (F : Fr h₀ L s.heap m) (X₀ : K.In h₀) (T : Top p loose mean mg mb h₀) (hA : A.frames = some [env]) (hf : env.frame = some L) (hke : env.scope.kind = .function)
    (ho : K.lookup f = some ⟨oc, od, .func (fnOf name qual params body scope dV kV doc pm an cdv ct), osl⟩) (hcd : codeIn K cdv qual = true) (hroom : A.depth < recursionLimit)
    (hbind : BindsTo s (fnOf name qual params body scope dV kV doc pm an cdv ct) args binds) (hloc : ∀ y ∈ binds, scope.names.lookup y.1 = some .local)
    (h : ∀ g L' h₁, Fr h₀ L g m → Fr g L' h₁ (fun y => binds.reverse.lookup y) → News g L' h₁ [] → Below A base [env] g → K.In g → Top p loose mean mg mb g → KtsDicts ([env].filterMap (·.frame)) g →
      wpAny (model prog w) (A.deeper (envOf qual scope L' f cdv)) (execs body (envOf qual scope L' f cdv))
        (fun fl s' => LeaveS0 ([env].filterMap (·.frame)) h₀ L m g R (match fl with | .ret v => v | _ => .none) s')
        (fun e s' => wpAny (model prog w) (A.deeper (envOf qual scope L' f cdv)) (leaving (envOf qual scope L' f cdv) e) (fun _ s'' => R (.error e) s'') (fun e' s'' => R (.error e') s'') s')
        { s with heap := h₁, toks := s.toks + binds.length })
    (hco : scope.isCoroutine = false) (hgen : scope.isGenerator = false) (hk : scope.kind = .function)
    (hcell : ∀ x ∈ scope.names, x.2 ≠ .cell) : codeAny (model prog w) A (.call (.ref f) args) R s := by
  have X := X₀.keeps F.keep
  have hfm : [env].filterMap (·.frame) = [L] := by simp [hf]
  refine codeAny_call_def (fd := fnX name qual params body scope [] dV kV doc pm an cdv ct) (body := body) (binds := binds) hroom (X _ _ ho) rfl (T.nolimit.keeps F.keep) (codeRec_of X hcd) rfl hbind hcell hloc (fun h₁ hns hk₁ => ?_) hco hgen hk
  obtain ⟨FG, BG, st, lv⟩ := groundX (R := R) B F (News.nil) hA hf hke
  have e0 : hideAll s.heap (([] : List (Addr × Obj)).map (·.1)) = s.heap := rfl
  rw [e0] at FG BG st
  obtain ⟨oL, es, ep, hL, hLd, hLk, hLf⟩ := F.ns
  refine wpAny_mono (h _ s.heap.objs.size h₁ F ⟨hns, hk₁, Nat.le_refl _⟩ News.nil BG X (T.keeps F.keep) (fun b hb => by
      rw [hfm] at hb
      rw [List.mem_singleton.mp hb]
      exact ⟨oL, es, ep, hL, hLd⟩)) (fun fl s' hl => ?_) fun _ _ y => y
  obtain ⟨g', L', m', news', T', F', N', k⟩ := hl
  have nL₀ : h₀.get? L = none := kts_self F
  obtain ⟨sl, hs⟩ := T'.up hL
  refine k ⟨⟨_, es, ep, F'.keep _ _ hs, hLd, hLk, hLf⟩, fun b o e => F'.keep b o (T'.other b o (F.keep b o e) (fun q => by
    rw [hfm] at q
    rw [List.mem_singleton.mp q, nL₀] at e
    cases e)), F.above⟩ fun p hp => ⟨(N' p hp).1, fun q => ?_, ?_⟩
  · have := (N' p hp).2.2; rw [q, hs] at this; cases this
  · cases q : h₀.get? p.1 with
    | none => rfl
    | some o =>
      obtain ⟨sl', hs'⟩ := T'.up (F.keep _ _ q)
      have := (N' p hp).2.2
      rw [hs'] at this
      cases this
end
end
section
open PySem.Calls
/-- a mark at which the walk halts -/
def Halt (P : Prop) : Prop := P
theorem halt {P : Prop} (h : Halt P) : P := h
section
variable {prog : Program} {w : World} {A : Around} {E : Value → Shared → Prop} {s : Shared} {env : Env} {h₀ : Heap} {x : Str} {body : List Stmt} {Q : Flow → Shared → Prop}
/-- a turn's end: the iterator's object stands, the state's ledger is off it -/
def EndG (h₀ : Heap) (L : Addr) (J : (Str → Option Value) → List (Addr × Obj) → Prop) (I : Addr) (oI : Obj) (s₁ s₂ : Shared) : Prop :=
  ∃ h' tk m' nx, s₂ = { s₁ with heap := h', toks := tk } ∧ Fr h₀ L h' m' ∧ News h₀ L h' ((I, oI) :: nx) ∧ (∀ p ∈ nx, p.1 ≠ I) ∧ J m' nx
def PostG (h₀ : Heap) (L : Addr) (J : (Str → Option Value) → List (Addr × Obj) → Prop) (I : Addr) (oI : Obj) (s₁ : Shared) (Q : Flow → Shared → Prop) (f : Flow) (s₂ : Shared) : Prop :=
  match f with
  | .ret v => Q (.ret v) s₂
  | .brk => Q .next s₂
  | _ => EndG h₀ L J I oI s₁ s₂
theorem EndG.intro {L : Addr} {J : (Str → Option Value) → List (Addr × Obj) → Prop} {m' : Str → Option Value} {news' nx : List (Addr × Obj)} {I : Addr} {oI : Obj} {s₁ : Shared} {h' : Heap} {tk : Nat} (F : Fr h₀ L h' m') (N : News h₀ L h' news')
    (hI : (I, oI) ∈ news') (hn : ∀ p ∈ nx, p ∈ news') (ho : ∀ p ∈ nx, p.1 ≠ I) (hj : J m' nx) : EndG h₀ L J I oI s₁ { s₁ with heap := h', toks := tk } :=
  ⟨h', tk, m', nx, rfl, F, fun p hp => N p (by rcases List.mem_cons.mp hp with rfl | hp; exact hI; exact hn p hp), ho, hj⟩
theorem loopG {I l : Addr} {lo : Obj} {fp : List Addr} {n : Nat} {P : Nat → Value → Prop} {St : Nat → Heap → Prop} {m₀ : Str → Option Value} {news : List (Addr × Obj)}
    (W : Walks prog w A I fp [I] n P St) (hfp : ∀ b ∈ fp, b = I ∨ b = l) (hIo : ∀ i h, St i h → ∃ o, h.get? I = some o) (h0I : h₀.get? I = none) (hLI : env.locals ≠ I) (hLl : env.locals ≠ l)
    (J : Nat → (Str → Option Value) → List (Addr × Obj) → Prop) (hl : (∀ b ∈ fp, b = I) ∨ h₀.get? l ≠ none ∨ ∀ i m nx, J i m nx → (l, lo) ∈ nx)
    (st0 : St 0 s.heap) (F : Fr h₀ env.locals s.heap m₀) (N : News h₀ env.locals s.heap news) (hoff : ∀ p ∈ news, p.1 ≠ I) (hj : J 0 m₀ news)
    (turn : ∀ i v m₁ news₁ h tk oI, i < n → P i v → J i m₁ news₁ → (∀ p ∈ news₁, p.1 ≠ I) → Fr h₀ env.locals h (fun y => if y = x then some v else m₁ y) → News h₀ env.locals h ((I, oI) :: news₁) →
      wpAny (model prog w) A (execs body env) (PostG h₀ env.locals (J (i + 1)) I oI { s with heap := h, toks := tk } Q) E { s with heap := h, toks := tk })
    (done : ∀ m₁ news₁ h tk, J n m₁ news₁ → Fr h₀ env.locals h m₁ → News h₀ env.locals h news₁ → Q .next { s with heap := h, toks := tk }) :
    LoopAtV prog w A h₀ env x body Q E (.ref I) s := by
  refine ⟨I, fp, [I], n, P, St, m₀, news, J, rfl, W, ?_, ?_, ?_, st0, F, N, hj, ?_, ?_⟩
  · intro hm
    rcases hfp _ hm with e | e
    · exact hLI e
    · exact hLl e
  · intro b hb
    rw [List.mem_singleton.mp hb]
    exact h0I
  · intro p hp hI
    exact hoff p hp (List.mem_singleton.mp hI)
  · rintro i v m₁ news₁ s₁ own ⟨hh, tk, rfl⟩ hin hP hJ hoff₁ hown hget hall hst F₁ N₁
    obtain ⟨oI, hoI⟩ := hIo _ _ hst
    have hIfp : I ∈ fp := W.sub I (List.mem_singleton.mpr rfl)
    have hIm := hall I hIfp h0I oI hoI
    have off₁ : ∀ p ∈ news₁, p.1 ≠ I := fun p hp e => hoff₁ p hp (List.mem_singleton.mpr e)
    have N₂ : News h₀ env.locals hh ((I, oI) :: news₁) := fun p hp => N₁ p (by
      rcases List.mem_cons.mp hp with rfl | hp
      · exact List.mem_append_left _ hIm
      · exact List.mem_append_right _ hp)
    refine wpAny_mono (turn i v m₁ news₁ hh tk oI hin hP hJ off₁ F₁ N₂) (fun f s₂ p => ?_) fun _ _ e => e
    have fin : EndG h₀ env.locals (J (i + 1)) I oI { s with heap := hh, toks := tk } s₂ → LoopStepU h₀ env.locals [I] own (J (i + 1)) { s with heap := hh, toks := tk } .next s₂ := by
      rintro ⟨h', tk', m', nx, e, F', N', ho, hm⟩
      refine ⟨rfl, h', tk', m', nx, e, F', fun q hq => ?_, fun q hq hI => ho q hq (List.mem_singleton.mp hI), hm⟩
      rcases List.mem_append.mp hq with hq | hq
      · have hd := (N₁ q (List.mem_append_left _ hq)).2
        have atI : q.1 = I → h'.get? q.1 = some q.2 ∧ q.1 ≠ env.locals ∧ h₀.get? q.1 = none := fun e1 => by
          have : q = (I, oI) := Prod.ext e1 (Option.some.inj ((hget q hq).symm.trans ((congrArg hh.get? e1).trans hoI)))
          rw [this]
          exact N' _ (.head _)
        rcases hfp _ (hown q hq) with e1 | e1
        · exact atI e1
        · rcases hl with hl | hl | hl
          · exact atI (hl _ (hown q hq))
          · rw [← e1] at hl
            exact absurd hd.2 hl
          · have h1 := (N₂ _ (.tail _ (hl _ _ _ hJ))).1
            have : q = (l, lo) := Prod.ext e1 (Option.some.inj ((hget q hq).symm.trans ((congrArg hh.get? e1).trans h1)))
            rw [this]
            exact N' _ (.tail _ (hl _ _ _ hm))
      · exact N' q (.tail _ hq)
    cases f with
    | ret v => exact .ret p
    | brk => exact .brk p
    | next => exact .next (fin p)
    | cont => exact .cont (fin p)
  · intro h' tk m' news' F' N' _ hJ
    exact done m' news' h' tk hJ F' N'
/-- over a list, of the base or of the ledger -/
theorem iterL {l : Addr} {lo : Obj} {vs : List Value} {m₀ : Str → Option Value} {news : List (Addr × Obj)} (J : Nat → (Str → Option Value) → List (Addr × Obj) → Prop)
    (hh : A.handled = none) (hls : s.heap.IsList l vs.toArray) (hl : h₀.get? l ≠ none ∨ ∀ i m nx, J i m nx → (l, lo) ∈ nx) (hLl : env.locals ≠ l) (F : Fr h₀ env.locals s.heap m₀) (N : News h₀ env.locals s.heap news) (hj : J 0 m₀ news)
    (turn : ∀ i v m₁ news₁ h tk I oI, vs[i]? = some v → J i m₁ news₁ → (∀ p ∈ news₁, p.1 ≠ I) → Fr h₀ env.locals h (fun y => if y = x then some v else m₁ y) → News h₀ env.locals h ((I, oI) :: news₁) →
      wpAny (model prog w) A (execs body env) (PostG h₀ env.locals (J (i + 1)) I oI { s with heap := h, toks := tk } Q) E { s with heap := h, toks := tk })
    (done : ∀ m₁ news₁ h tk, J vs.length m₁ news₁ → Fr h₀ env.locals h m₁ → News h₀ env.locals h news₁ → Q .next { s with heap := h, toks := tk }) :
    wpAny (model prog w) A (pyIter (.ref l)) (fun it s₂ => LoopAtV prog w A h₀ env x body Q E it s₂) E s := by
  obtain ⟨ol, hol, _⟩ := id hls
  have hlt : l < s.heap.objs.size := Heap.lt_size hol
  refine wpAny_pyIter_list hls ?_
  have W := Walks.list (prog := prog) (w := w) hh s.heap.objs.size l (Nat.ne_of_lt hlt) vs.toArray
  have hLlt : env.locals < s.heap.objs.size := F.ns.lt
  refine loopG (lo := lo) W (fun b hb => ?_) (fun i h st => by obtain ⟨o, e, _⟩ := st.1; exact ⟨o, e⟩) (next_is_new F) (Nat.ne_of_lt hLlt) hLl J (.inr hl) ⟨⟨_, Heap.get?_push_size _ rfl, rfl, rfl⟩, hls.at fun o e => Heap.get?_push_of_some _ e⟩ (F.push _)
    (fun p hp => ⟨Heap.get?_push_of_some _ (N p hp).1, (N p hp).2⟩) (fun p hp => Nat.ne_of_lt (Heap.lt_size (N p hp).1)) hj (fun i v m₁ news₁ h tk oI hin hP => turn i v m₁ news₁ h tk _ oI (by simpa using hP)) ?_
  · rcases List.mem_cons.mp hb with h | hb
    · exact .inl h
    · exact .inr (List.mem_singleton.mp hb)
  · intro m₁ news₁ h tk hJ
    exact done m₁ news₁ h tk (by simpa using hJ)
/-- over a range by ones from nought -/
theorem iterR {r : Addr} {b : Int} {t u v : Tok} {n : Nat} {m₀ : Str → Option Value} {news : List (Addr × Obj)} (J : Nat → (Str → Option Value) → List (Addr × Obj) → Prop)
    (hh : A.handled = none) (hr : IsRange s.heap r 0 b 1 t u v) (hsm : Builtin.Range.small 0 b 1 = true) (hn : Builtin.Range.rangeSize 0 b 1 = ((n : Nat) : Int)) (F : Fr h₀ env.locals s.heap m₀) (N : News h₀ env.locals s.heap news) (hj : J 0 m₀ news)
    (turn : ∀ i t m₁ news₁ h tk I oI, i < n → J i m₁ news₁ → (∀ p ∈ news₁, p.1 ≠ I) → Fr h₀ env.locals h (fun y => if y = x then some (.int (i : Nat) t) else m₁ y) → News h₀ env.locals h ((I, oI) :: news₁) →
      wpAny (model prog w) A (execs body env) (PostG h₀ env.locals (J (i + 1)) I oI { s with heap := h, toks := tk } Q) E { s with heap := h, toks := tk })
    (done : ∀ m₁ news₁ h tk, J n m₁ news₁ → Fr h₀ env.locals h m₁ → News h₀ env.locals h news₁ → Q .next { s with heap := h, toks := tk }) :
    wpAny (model prog w) A (pyIter (.ref r)) (fun it s₂ => LoopAtV prog w A h₀ env x body Q E it s₂) E s := by
  refine wpAny_pyIter_range hr hsm ?_
  have W := LCg.range_walks (prog := prog) (w := w) (A := A) (I := s.heap.objs.size) hh 0 n
  have hLlt : env.locals < s.heap.objs.size := F.ns.lt
  refine loopG (l := s.heap.objs.size) (lo := default) W (fun b hb => .inl (List.mem_singleton.mp hb)) (fun i h st => ⟨_, st⟩) (next_is_new F) (Nat.ne_of_lt hLlt) (Nat.ne_of_lt hLlt) J (.inl fun b hb => List.mem_singleton.mp hb) ?_ (F.push _)
    (fun p hp => ⟨Heap.get?_push_of_some _ (N p hp).1, (N p hp).2⟩) (fun p hp => Nat.ne_of_lt (Heap.lt_size (N p hp).1)) hj ?_ done
  · show IsRangeIter _ _ _ _ _
    rw [hn]
    simpa using Heap.get?_push_size _ rfl
  · rintro i v m₁ news₁ h tk oI hin ⟨t', rfl⟩ hJ ho F' N'
    have e : (0 : Int) + (i : Int) = ((i : Nat) : Int) := Int.zero_add _
    rw [e] at F'
    exact turn i t' m₁ news₁ h tk _ oI hin hJ ho F' N'
/-- over a dict's keys -/
theorem iterD {K : Type} [DecidableEq K] {knd : KeyKind prog w K} {d : Addr} {lo : Obj} {kvs : List (K × Value)} {ep : Nat} {m₀ : Str → Option Value} {news : List (Addr × Obj)} (J : Nat → (Str → Option Value) → List (Addr × Obj) → Prop)
    (hh : A.handled = none) (hs : (d == sysModules) = false) (hd : s.heap.DictAt knd d kvs ep) (hl : h₀.get? d ≠ none ∨ ∀ i m nx, J i m nx → (d, lo) ∈ nx) (hLl : env.locals ≠ d) (F : Fr h₀ env.locals s.heap m₀) (N : News h₀ env.locals s.heap news) (hj : J 0 m₀ news)
    (turn : ∀ i v k y m₁ news₁ h tk I oI, kvs[i]? = some (k, y) → knd.is k v = true → J i m₁ news₁ → (∀ p ∈ news₁, p.1 ≠ I) → Fr h₀ env.locals h (fun y => if y = x then some v else m₁ y) → News h₀ env.locals h ((I, oI) :: news₁) →
      wpAny (model prog w) A (execs body env) (PostG h₀ env.locals (J (i + 1)) I oI { s with heap := h, toks := tk } Q) E { s with heap := h, toks := tk })
    (done : ∀ m₁ news₁ h tk, J kvs.length m₁ news₁ → Fr h₀ env.locals h m₁ → News h₀ env.locals h news₁ → Q .next { s with heap := h, toks := tk }) :
    wpAny (model prog w) A (pyIter (.ref d)) (fun it s₂ => LoopAtV prog w A h₀ env x body Q E it s₂) E s := by
  obtain ⟨od, es, hod, _⟩ := id hd
  have hlt : d < s.heap.objs.size := Heap.lt_size hod
  refine wpAny_pyIter_dict hs hd ?_
  have W := Walks.dictKeys (prog := prog) (w := w) (knd := knd) hh s.heap.objs.size d (Nat.ne_of_lt hlt) kvs ep
  have hLlt : env.locals < s.heap.objs.size := F.ns.lt
  refine loopG (lo := lo) W (fun b hb => ?_) (fun i h st => by obtain ⟨o, e, _⟩ := st.1; exact ⟨o, e⟩) (next_is_new F) (Nat.ne_of_lt hLlt) hLl J (.inr hl) ⟨⟨_, Heap.get?_push_size _ rfl, rfl, rfl⟩, hd.at' fun o e => Heap.get?_push_of_some _ e⟩ (F.push _)
    (fun p hp => ⟨Heap.get?_push_of_some _ (N p hp).1, (N p hp).2⟩) (fun p hp => Nat.ne_of_lt (Heap.lt_size (N p hp).1)) hj (fun i v m₁ news₁ h tk oI hin hP => ?_) done
  · rcases List.mem_cons.mp hb with h | hb
    · exact .inl h
    · exact .inr (List.mem_singleton.mp hb)
  · obtain ⟨k, y, hk, hv⟩ := hP
    exact turn i v k y m₁ news₁ h tk _ oI hk hv
end
end
section
abbrev wellObj (q : Addr) (i c : Int) (ti tc : Tok) (n : Nat) : Obj := listOf #[.ref q, .int i ti, .int c tc] n

/-- the well's list: its ints, the place, the last -/
def IsWell (q : Addr) (ns : List Int) (o : Obj) : Prop := ∃ nw i c ti tc, o = wellObj q i c ti tc nw ∧ 0 ≤ i ∧ i ≤ ns.length ∧ 0 ≤ c ∧ c < 997

set_option maxRecDepth 100000 in
set_option maxHeartbeats 8000000 in
theorem well_ok {w : World} {mean : ExcName → Option Value} {mg mb : Str → Option Value} {dp un : Nat} {gd : Option (List Code)} {cn : Str} {cs : Scope} {a : Addr} {ccd : Value} {cl : List (Str × Addr)} {outer : List Env} {A₀ : Around} {base h₀ : Heap} {L : Addr} {m : Str → Option Value} {s : Shared} {Q E : Value → Shared → Prop} {l : Addr} {vs : List Value} {ns : List Int} {news : List (Addr × Obj)}
    (B : Below A₀ base outer h₀) (F : Fr h₀ L s.heap m) (X : (hd.heap_39 w.params).In h₀) (N : News h₀ L s.heap news) (T : Top hd.view_39 (looseW hd.view_39 [Str.ofString "WORD", Str.ofString "LEAST_ADDRESS"]) mean mg mb h₀) (hk : cs.kind = .function) (hl : base.IsList l vs.toArray) (hi : IntsAre vs ns) (hn : ns.length ≤ 63)
    (hd : dp + 1 < recursionLimit) (hu : un + 100 < cLine)
    (hret : ∀ q wl (vs' : List Value) (ns' : List Int) t0 t1 nq h' tk', IntsAre vs' ns' → ns'.length ≤ 60 → (∀ v ∈ ns', 0 ≤ v ∧ v < 2147483647) → Fr h₀ L h' m → News h₀ L h' ((wl, wellObj q 0 1 t0 t1 0) :: (q, listOf vs'.toArray nq) :: news) → q < wl → (∀ p ∈ news, p.1 ≠ q) → (∀ p ∈ news, p.1 < wl) → Q (.ref wl) { s with heap := h', toks := tk' }) :
    wpAny (model PySem.Challenge.rw_pq0387_01.row.prog w) (ktrTop dp un gd cn cs L a ccd cl outer) (call (.ref 147) [.ref l]) Q E s := by
  w_top off
  have hlast : ∀ p ∈ news, p.1 < s.heap.objs.size := fun p hp => Heap.lt_size (N p hp).1
  revert X; k_fill; intro X
  refine wpAny_call ?_
  k_dflt (refine' code_def ?k1 ?k2 ?k3 ?k4 ?k5 ?kA ?kF ?kK ?k6 ?k7 ?k8 ?k9 ?kB ?_ ?c2 ?c3 ?c4 ?c5; (case kA => exact rfl); (case kF => exact rfl); (case kK => assumption); (case k1 => k_asm); (case k2 => k_asm); (case k3 => k_asm); (case k4 => k_asm); (case k5 => k_asm); (case k6 => k_is); (case k7 => k_is); (case k8 => ktr_room); (case k9 => exact BindsTo.of_eq rfl); (case c5 => decide); (case kB => exact locs rfl); (case c2 => exact rfl); (case c3 => exact rfl); (case c4 => exact rfl); k_whole; intro g' L' h' FG' F' N' B' X' T'; (try dsimp only); (try k_lift B'); (try k_fold))
  k_steps
  (rename _ ≠ _ ∧ GnNe _ _ => hgn)
  refine' hret _ _ _ _ _ _ _ _ _ ?h1 ?h2 ?h3 ?h4 ?h5 ?h6 ?h7 ?h8
  case h5 => refine' cb_drop ?cN ?cS; (case cN => assumption); (case cS => kst_allIn)
  case h1 => assumption
  case h4 => assumption
  case h2 => simp only [List.length_map, List.length_take]; omega
  case h3 =>
    intro v hv
    obtain ⟨x, _, rfl⟩ := List.mem_map.mp hv
    exact ⟨Int.fmod_nonneg_of_pos _ (by decide), Int.fmod_lt_of_pos _ (by decide)⟩
  case h6 => (rename _ ∧ _ ∧ AllLt _ _ => hl1); exact hl1.1
  case h7 => exact gnNe_to hgn.2
  case h8 => (rename _ ∧ _ ∧ AllLt _ _ => hl1); exact allLt_to hl1.2.2
end
section
set_option maxRecDepth 100000 in
set_option maxHeartbeats 8000000 in
theorem draw_ok0 {w : World} {mean : ExcName → Option Value} {mg mb : Str → Option Value} {dp un : Nat} {gd : Option (List Code)} {cn : Str} {cs : Scope} {a : Addr} {ccd : Value} {cl : List (Str × Addr)} {outer : List Env} {A₀ : Around} {base h₀ : Heap} {L : Addr} {m : Str → Option Value} {s : Shared} {Q E : Value → Shared → Prop} {wl q : Addr} {vs : List Value} {ns : List Int} {nw nq : Nat} {i c z : Int} {ti tc tz : Tok} {rest news : List (Addr × Obj)}
    (e : news = (wl, wellObj q i c ti tc nw) :: (q, listOf vs.toArray nq) :: rest)
    (B : Below A₀ base outer h₀) (F : Fr h₀ L s.heap m) (X : (hd.heap_39 w.params).In h₀) (N : News h₀ L s.heap news) (T : Top hd.view_39 (looseW hd.view_39 [Str.ofString "WORD", Str.ofString "LEAST_ADDRESS"]) mean mg mb h₀) (hk : cs.kind = .function) (hq : q ≠ wl) (hr : ∀ p ∈ rest, p.1 ≠ wl)
    (iv : IntsAre vs ns) (hn : ns.length ≤ 60) (hv : ∀ v ∈ ns, 0 ≤ v ∧ v < 2147483647) (hi0 : 0 ≤ i) (hi1 : i ≤ ns.length) (hc0 : 0 ≤ c) (hc1 : c < 997) (hz0 : 0 < z) (hz1 : z ≤ 1000)
    (hd : dp + 1 < recursionLimit) (hu : un + 100 < cLine)
    (hret : ∀ (r i' c' : Int) t ti' tc' h' tk', 0 ≤ r → r < z → 0 ≤ i' → i' ≤ ns.length → 0 ≤ c' → c' < 997 → Fr h₀ L h' m → News h₀ L h' ((wl, wellObj q i' c' ti' tc' nw) :: (q, listOf vs.toArray nq) :: rest) → Q (.int r t) { s with heap := h', toks := tk' }) :
    wpAny (model PySem.Challenge.rw_pq0387_01.row.prog w) (ktrTop dp un gd cn cs L a ccd cl outer) (call (.ref 154) [.ref wl, .int z tz]) Q E s := by
  w_top off
  subst e
  revert X; k_fill; intro X
  refine wpAny_call ?_
  k_dflt (refine' code_def ?k1 ?k2 ?k3 ?k4 ?k5 ?kA ?kF ?kK ?k6 ?k7 ?k8 ?k9 ?kB ?_ ?c2 ?c3 ?c4 ?c5; (case kA => exact rfl); (case kF => exact rfl); (case kK => assumption); (case k1 => k_asm); (case k2 => k_asm); (case k3 => k_asm); (case k4 => k_asm); (case k5 => k_asm); (case k6 => k_is); (case k7 => k_is); (case k8 => ktr_room); (case k9 => exact BindsTo.of_eq rfl); (case c5 => decide); (case kB => exact locs rfl); (case c2 => exact rfl); (case c3 => exact rfl); (case c4 => exact rfl); k_whole; intro g' L' h' FG' F' N' B' X' T'; (try dsimp only); (try k_lift B'); (try k_fold))
  k_steps
  all_goals
    refine' hret _ _ _ _ _ _ _ _ ?h1 ?h2 ?h3 ?h4 ?h5 ?h6 ?h7 ?h8
    case h8 => assumption
    case h7 => assumption
    case h1 => exact Int.fmod_nonneg_of_pos _ (by omega)
    case h2 => exact Int.fmod_lt_of_pos _ (by omega)
    case h3 => omega
    case h4 => omega
    case h5 => exact Int.fmod_nonneg_of_pos _ (by decide)
    case h6 => exact Int.fmod_lt_of_pos _ (by decide)
/-- a draw, the ledger at large -/
theorem draw_ok {w : World} {mean : ExcName → Option Value} {mg mb : Str → Option Value} {dp un : Nat} {gd : Option (List Code)} {cn : Str} {cs : Scope} {a : Addr} {ccd : Value} {cl : List (Str × Addr)} {outer : List Env} {A₀ : Around} {base h₀ : Heap} {L : Addr} {m : Str → Option Value} {s : Shared} {Q E : Value → Shared → Prop} {wl q : Addr} {vs : List Value} {ns : List Int} {nq : Nat} {z : Int} {tz : Tok} {o : Obj} {news : List (Addr × Obj)} {news' : Obj → List (Addr × Obj)}
    (B : Below A₀ base outer h₀) (F : Fr h₀ L s.heap m) (X : (hd.heap_39 w.params).In h₀) (N : News h₀ L s.heap news) (T : Top hd.view_39 (looseW hd.view_39 [Str.ofString "WORD", Str.ofString "LEAST_ADDRESS"]) mean mg mb h₀) (hk : cs.kind = .function) (m1 : (wl, o) ∈ news) (m2 : (q, listOf vs.toArray nq) ∈ news) (hW : IsWell q ns o) (U : ∀ o', Upd wl o o' news (news' o')) (hq : q ≠ wl)
    (iv : IntsAre vs ns) (hn : ns.length ≤ 60) (hv : ∀ v ∈ ns, 0 ≤ v ∧ v < 2147483647) (hz0 : 0 < z) (hz1 : z ≤ 1000)
    (hd : dp + 1 < recursionLimit) (hu : un + 100 < cLine)
    (hret : ∀ (r : Int) t o' h' tk', 0 ≤ r → r < z → IsWell q ns o' → Fr h₀ L h' m → News h₀ L h' (news' o') → Q (.int r t) { s with heap := h', toks := tk' }) :
    wpAny (model PySem.Challenge.rw_pq0387_01.row.prog w) (ktrTop dp un gd cn cs L a ccd cl outer) (call (.ref 154) [.ref wl, .int z tz]) Q E s := by
  obtain ⟨nw, i, c, ti, tc, rfl, hi0, hi1, hc0, hc1⟩ := hW
  refine draw_ok0 (rest := less wl news) (nw := nw) (nq := nq) (i := i) (c := c) (ti := ti) (tc := tc) rfl B F X (fun p hp => ?_) T hk hq less_ne iv hn hv hi0 hi1 hc0 hc1 hz0 hz1 hd hu fun r i' c' t ti' tc' h' tk' a1 a2 a3 a4 a5 a6 F' N' => hret r t _ h' tk' a1 a2 ⟨nw, i', c', ti', tc', rfl, a3, a4, a5, a6⟩ F' fun p hp => ?_
  · rcases List.mem_cons.mp hp with rfl | hp
    · exact N _ m1
    · rcases List.mem_cons.mp hp with rfl | hp
      · exact N _ m2
      · exact N _ (less_mem _ hp)
  · rcases upd_mem (U _) p hp with rfl | ⟨h1, h2⟩
    · exact N' _ (.head _)
    · exact N' _ (.tail _ (.tail _ (mem_less h1 h2)))
end
section
theorem menu_ok {r w : Int} {k : Nat} (hk : k = 20 ∨ k = 32) (h0 : 0 ≤ r) (h1 : r < 250) (w0 : 0 ≤ w) (w1 : w < 4) :
    0 ≤ [r, 256 ^ k - 1 - r, (256 ^ k - 1 : Int).fdiv 255 * r, r.fmod 4].getD w.toNat 0 ∧ [r, 256 ^ k - 1 - r, (256 ^ k - 1 : Int).fdiv 255 * r, r.fmod 4].getD w.toNat 0 < 256 ^ k := by
  have h4 : r.fmod 4 = r % 4 := Int.fmod_eq_emod_of_nonneg _ (by decide)
  have c : w = 0 ∨ w = 1 ∨ w = 2 ∨ w = 3 := by omega
  rcases hk with rfl | rfl
  · have e1 : (256 : Int) ^ 20 = 1461501637330902918203684832716283019655932542976 := by decide
    have e2 : ((256 : Int) ^ 20 - 1).fdiv 255 = 5731378969925109483151705226338364782964441345 := by decide
    rw [e2, e1, h4]
    rcases c with rfl | rfl | rfl | rfl <;> simp <;> omega
  · have e1 : (256 : Int) ^ 32 = 115792089237316195423570985008687907853269984665640564039457584007913129639936 := by decide
    have e2 : ((256 : Int) ^ 32 - 1).fdiv 255 = 454086624460063511464984254936031011189294057512315937409637584344757371137 := by decide
    rw [e2, e1, h4]
    rcases c with rfl | rfl | rfl | rfl <;> simp <;> omega
set_option maxRecDepth 100000 in
set_option maxHeartbeats 8000000 in
theorem number_ok0 {w : World} {mean : ExcName → Option Value} {mg mb : Str → Option Value} {dp un : Nat} {gd : Option (List Code)} {cn : Str} {cs : Scope} {a : Addr} {ccd : Value} {cl : List (Str × Addr)} {outer : List Env} {A₀ : Around} {base h₀ : Heap} {L : Addr} {m : Str → Option Value} {s : Shared} {Q E : Value → Shared → Prop} {wl q al : Addr} {vs av : List Value} {ns as : List Int} {nq na k : Nat} {many : Int} {tm : Tok} {o : Obj} {rest news : List (Addr × Obj)}
    (e : news = (wl, o) :: (q, listOf vs.toArray nq) :: (al, listOf av.toArray na) :: rest)
    (B : Below A₀ base outer h₀) (F : Fr h₀ L s.heap m) (X : (hd.heap_39 w.params).In h₀) (N : News h₀ L s.heap news) (T : Top hd.view_39 (looseW hd.view_39 [Str.ofString "WORD", Str.ofString "LEAST_ADDRESS"]) mean mg mb h₀) (hk : cs.kind = .function) (hW : IsWell q ns o) (hq : q ≠ wl) (ha : al ≠ wl) (hr : ∀ p ∈ rest, p.1 ≠ wl)
    (iv : IntsAre vs ns) (hn : ns.length ≤ 60) (hv : ∀ v ∈ ns, 0 ≤ v ∧ v < 2147483647) (iav : IntsAre av as) (han : as.length ≤ 100) (hav : ∀ v ∈ as, 0 ≤ v ∧ v < 256 ^ 32)
    (hm : (many = 20 ∧ k = 20) ∨ (many = 32 ∧ k = 32))
    (hd : dp + 2 < recursionLimit) (hu : un + 120 < cLine)
    (hret : ∀ (r : Int) t o' h' tk', 0 ≤ r → r < 256 ^ k → IsWell q ns o' → Fr h₀ L h' m → News h₀ L h' ((wl, o') :: (q, listOf vs.toArray nq) :: (al, listOf av.toArray na) :: rest) → Q (.int r t) { s with heap := h', toks := tk' }) :
    wpAny (model PySem.Challenge.rw_pq0387_01.row.prog w) (ktrTop dp un gd cn cs L a ccd cl outer) (call (.ref 161) [.ref wl, .int many tm, .ref al]) Q E s := by
  w_top off
  subst e
  rcases hm with ⟨rfl, rfl⟩ | ⟨rfl, rfl⟩
  all_goals
    revert X; k_fill; intro X
    refine wpAny_call ?_
    k_dflt (refine' code_def ?k1 ?k2 ?k3 ?k4 ?k5 ?kA ?kF ?kK ?k6 ?k7 ?k8 ?k9 ?kB ?_ ?c2 ?c3 ?c4 ?c5; (case kA => exact rfl); (case kF => exact rfl); (case kK => assumption); (case k1 => k_asm); (case k2 => k_asm); (case k3 => k_asm); (case k4 => k_asm); (case k5 => k_asm); (case k6 => k_is); (case k7 => k_is); (case k8 => ktr_room); (case k9 => exact BindsTo.of_eq rfl); (case c5 => decide); (case kB => exact locs rfl); (case c2 => exact rfl); (case c3 => exact rfl); (case c4 => exact rfl); k_whole; intro g' L' h' FG' F' N' B' X' T'; (try dsimp only); (try k_lift B'); (try k_fold))
    repeat' (first | (with_reducible (k_here; (with_reducible show wpAny _ _ (call (Value.ref 154) _) _ _ _); k_dflt (refine' draw_ok ?BZZ ?FZZ ?XZZ ?NZZ ?TZZ ?hkZZ ?m1ZZ ?m2ZZ ?WZZ ?UZZ ?hqZZ ?ivZZ ?hnZZ ?hvZZ ?z0ZZ ?z1ZZ ?hdZZ ?huZZ ?_; (case BZZ => k_asm); (case FZZ => k_asm); (case XZZ => k_asm); (case NZZ => k_asm); (case TZZ => k_asm); (case hkZZ => first | exact rfl | assumption); (case m1ZZ => k_mem); (case WZZ => assumption); (case m2ZZ => k_mem); (case UZZ => intro o'Z; k_upd); (case hqZZ => assumption); (case ivZZ => assumption); (case hnZZ => assumption); (case hvZZ => assumption); (case z0ZZ => decide); (case z1ZZ => decide); (case hdZZ => ktr_room); (case huZZ => ktr_units)); intro rZ tZ o'Z h'Z tk'Z hr0Z hr1Z hWZ F'Z N'Z; (try dsimp only); (try k_sweep))) | (k_here; (with_reducible show wpAny _ _ (call (Value.ref 154) _) _ _ _); k_dflt (refine' draw_ok ?BZZ ?FZZ ?XZZ ?NZZ ?TZZ ?hkZZ ?m1ZZ ?m2ZZ ?WZZ ?UZZ ?hqZZ ?ivZZ ?hnZZ ?hvZZ ?z0ZZ ?z1ZZ ?hdZZ ?huZZ ?_; (case BZZ => k_asm); (case FZZ => k_asm); (case XZZ => k_asm); (case NZZ => k_asm); (case TZZ => k_asm); (case hkZZ => first | exact rfl | assumption); (case m1ZZ => k_mem); (case WZZ => assumption); (case m2ZZ => k_mem); (case UZZ => intro o'Z; k_upd); (case hqZZ => assumption); (case ivZZ => assumption); (case hnZZ => assumption); (case hvZZ => assumption); (case z0ZZ => decide); (case z1ZZ => decide); (case hdZZ => ktr_room); (case huZZ => ktr_units)); intro rZ tZ o'Z h'Z tk'Z hr0Z hr1Z hWZ F'Z N'Z; (try dsimp only); (try k_sweep)) | (k_unfold; (try dsimp only)) | (k_end; kc_close) | walk1 | (dsimp only; walk1) | (leave1; (try dsimp only)) | fail "no step")
    all_goals first
      | (refine' hret _ _ _ _ _ ?h1 ?h2 ?h3 ?h4 ?h5
         case h5 => refine' cb_drop ?cN ?cS; (case cN => assumption); (case cS => kst_allIn)
         case h4 => assumption
         case h3 => assumption
         case h1 => first | exact Int.fmod_nonneg_of_pos _ (by decide) | exact (menu_ok (by decide) (by assumption) (by assumption) (by assumption) (by assumption)).1
         case h2 => first | exact Int.fmod_lt_of_pos _ (by decide) | exact (menu_ok (by decide) (by assumption) (by assumption) (by assumption) (by assumption)).2)
      | (exfalso
         rename decide (as = []) = false => hx
         rename (as.length : Int) = 0 => hy
         have : as = [] := List.eq_nil_of_length_eq_zero (by omega)
         simp [this] at hx)
/-- a drawn number, the ledger at large -/
theorem number_ok {w : World} {mean : ExcName → Option Value} {mg mb : Str → Option Value} {dp un : Nat} {gd : Option (List Code)} {cn : Str} {cs : Scope} {a : Addr} {ccd : Value} {cl : List (Str × Addr)} {outer : List Env} {A₀ : Around} {base h₀ : Heap} {L : Addr} {m : Str → Option Value} {s : Shared} {Q E : Value → Shared → Prop} {wl q al : Addr} {vs av : List Value} {ns as : List Int} {nq na k : Nat} {many : Int} {tm : Tok} {o : Obj} {news : List (Addr × Obj)} {news' : Obj → List (Addr × Obj)}
    (B : Below A₀ base outer h₀) (F : Fr h₀ L s.heap m) (X : (hd.heap_39 w.params).In h₀) (N : News h₀ L s.heap news) (T : Top hd.view_39 (looseW hd.view_39 [Str.ofString "WORD", Str.ofString "LEAST_ADDRESS"]) mean mg mb h₀) (hk : cs.kind = .function) (m1 : (wl, o) ∈ news) (hW : IsWell q ns o) (m2 : (q, listOf vs.toArray nq) ∈ news) (m3 : (al, listOf av.toArray na) ∈ news) (U : ∀ o', Upd wl o o' news (news' o')) (hq : q ≠ wl) (ha : al ≠ wl)
    (iv : IntsAre vs ns) (hn : ns.length ≤ 60) (hv : ∀ v ∈ ns, 0 ≤ v ∧ v < 2147483647) (iav : IntsAre av as) (han : as.length ≤ 100) (hav : ∀ v ∈ as, 0 ≤ v ∧ v < 256 ^ 32)
    (hm : (many = 20 ∧ k = 20) ∨ (many = 32 ∧ k = 32))
    (hd : dp + 2 < recursionLimit) (hu : un + 120 < cLine)
    (hret : ∀ (r : Int) t o' h' tk', 0 ≤ r → r < 256 ^ k → IsWell q ns o' → Fr h₀ L h' m → News h₀ L h' (news' o') → Q (.int r t) { s with heap := h', toks := tk' }) :
    wpAny (model PySem.Challenge.rw_pq0387_01.row.prog w) (ktrTop dp un gd cn cs L a ccd cl outer) (call (.ref 161) [.ref wl, .int many tm, .ref al]) Q E s := by
  refine number_ok0 (rest := less wl news) (nq := nq) (na := na) rfl B F X (fun p hp => ?_) T hk hW hq ha less_ne iv hn hv iav han hav hm hd hu fun r t o' h' tk' a1 a2 a3 F' N' => hret r t _ h' tk' a1 a2 a3 F' fun p hp => ?_
  · rcases List.mem_cons.mp hp with rfl | hp
    · exact N _ m1
    · rcases List.mem_cons.mp hp with rfl | hp
      · exact N _ m2
      · rcases List.mem_cons.mp hp with rfl | hp
        · exact N _ m3
        · exact N _ (less_mem _ hp)
  · rcases upd_mem (U _) p hp with rfl | ⟨h1, h2⟩
    · exact N' _ (.head _)
    · exact N' _ (.tail _ (.tail _ (.tail _ (mem_less h1 h2))))
end
section
theorem pow256_ne (n : Nat) : (256 : Int) ^ n ≠ 0 := Int.ne_of_gt (Int.pow_pos (by decide))
theorem pow256_log {n : Nat} (h : n ≤ 40) : ((256 : Int) ^ n).natAbs.log2 < 9000 := by
  have e : ((256 : Int) ^ n).natAbs = 256 ^ n := by rw [Int.natAbs_pow]; rfl
  rw [e]
  have h0 : (256 : Nat) ^ n ≠ 0 := Nat.ne_of_gt (Nat.pow_pos (by decide))
  refine (Nat.log2_lt h0).mpr ?_
  have e2 : (256 : Nat) = 2 ^ 8 := by decide
  rw [e2, ← Nat.pow_mul]
  exact Nat.pow_lt_pow_right (by decide) (by omega)
theorem octs_walk (k : Nat) (K n : Int) (hK : K = k) : (rangeKs 0 (K - 0).toNat).map (fun j => (n.fdiv (256 ^ (K - 1 - j).toNat)).fmod 256) = octs k n := by
  subst hK
  unfold octs rangeKs
  rw [List.map_map]
  have e : ((k : Int) - 0).toNat = k := by omega
  rw [e]
  refine List.map_congr_left fun j hj => ?_
  have hj' := List.mem_range.mp hj
  have e2 : ((k : Int) - 1 - (0 + (j : Int))).toNat = k - 1 - j := by omega
  show (n.fdiv (256 ^ ((k : Int) - 1 - (0 + (j : Int))).toNat)).fmod 256 = _
  rw [e2, Int.fmod_eq_emod_of_nonneg _ (by decide), Int.fdiv_eq_ediv_of_nonneg _ (Int.le_of_lt (Int.pow_pos (by decide)))]
section
variable {prog : Program} {w : World} {A : Around} {E : Value → Shared → Prop} {s : Shared} {Q : Value → Shared → Prop}
theorem fd256 {a : Int} {n : Nat} {t u : Tok} (hn : n ≤ 40) (h : Q (.int (a.fdiv (256 ^ n)) s.toks) { s with toks := s.toks + 1 }) :
    wpAny (model prog w) A (binaryOp .FloorDiv (.int a t) (.int (256 ^ n) u)) Q E s :=
  floordiv_int (pow256_ne n) h (Or.inl (PyProof.noPylong_of_log2 (pow256_log hn)))
end
set_option maxRecDepth 100000 in
set_option maxHeartbeats 8000000 in
theorem octets_ok {w : World} {mean : ExcName → Option Value} {mg mb : Str → Option Value} {dp un : Nat} {gd : Option (List Code)} {cn : Str} {cs : Scope} {a : Addr} {ccd : Value} {cl : List (Str × Addr)} {outer : List Env} {A₀ : Around} {base h₀ : Heap} {L : Addr} {m : Str → Option Value} {s : Shared} {Q E : Value → Shared → Prop} {k : Nat} {number many : Int} {tn tm : Tok} {news : List (Addr × Obj)}
    (B : Below A₀ base outer h₀) (F : Fr h₀ L s.heap m) (X : (hd.heap_39 w.params).In h₀) (N : News h₀ L s.heap news) (T : Top hd.view_39 (looseW hd.view_39 [Str.ofString "WORD", Str.ofString "LEAST_ADDRESS"]) mean mg mb h₀) (hk : cs.kind = .function) (hn0 : 0 ≤ number) (hn1 : number < 256 ^ 32)
    (hm : (many = 20 ∧ k = 20) ∨ (many = 32 ∧ k = 32))
    (hd : dp + 2 < recursionLimit) (hu : un + 120 < cLine)
    (hret : ∀ (b : Array UInt8) t h' tk', KBw.bInts b = octs k number → Fr h₀ L h' m → News h₀ L h' news → Q (.bytes b t) { s with heap := h', toks := tk' }) :
    wpAny (model PySem.Challenge.rw_pq0387_01.row.prog w) (ktrTop dp un gd cn cs L a ccd cl outer) (call (.ref 166) [.int number tn, .int many tm]) Q E s := by
  w_top off
  rcases hm with ⟨rfl, rfl⟩ | ⟨rfl, rfl⟩
  all_goals
    revert X; k_fill; intro X
    refine wpAny_call ?_
    k_dflt (refine' code_defC ?k1 ?k2 ?k3 ?k4 ?k5 ?kA ?kF ?kK ?k6 ?k7 ?k8 ?k9 ?kB ?kD ?_ ?c2 ?c3 ?c4; (case kA => exact rfl); (case kF => exact rfl); (case kK => assumption); (case k1 => k_asm); (case k2 => k_asm); (case k3 => k_asm); (case k4 => k_asm); (case k5 => k_asm); (case k6 => k_is); (case k7 => k_is); (case k8 => ktr_room); (case k9 => exact BindsTo.of_eq rfl); (case kB => exact rfl); (case kD => decide +kernel); (case c2 => exact rfl); (case c3 => exact rfl); (case c4 => exact rfl); k_whole; intro g' L' h' tk' cells' FG' F' N' Y' B' X' T' l1; (try k_lt l1); k_cells Y'; (try simp only [List.cons_append, List.nil_append] at N'); (try dsimp only); (try k_lift B'); (try k_fold))
    repeat' (first | (with_reducible (k_here; (with_reducible show wpAny _ _ (binaryOp Operator.FloorDiv (Value.int _ _) (Value.int _ _)) _ _ _); (with_reducible refine fd256 ?hn9ZZ ?_); (case hn9ZZ => omega))) | (k_unfold; (try dsimp only)) | (k_end; kc_close) | walk1 | (dsimp only; walk1) | (leave1; (try dsimp only)) | fail "no step")
    refine' hret _ _ _ _ ?h1 ?h2 ?h3
    case h1 => rename KBa.In _ => hin; exact (KBa.ints_make hin).trans (octs_walk _ _ _ rfl)
    case h2 => assumption
    case h3 => refine' cb_drop ?cN ?cS; (case cN => assumption); (case cS => kst_allIn)
end
section
theorem pow2_ne (n : Nat) : (2 : Int) ^ n ≠ 0 := Int.ne_of_gt (Int.pow_pos (by decide))
theorem pow2_log {n : Nat} (h : n < 9000) : ((2 : Int) ^ n).natAbs.log2 < 9000 := by
  have e : ((2 : Int) ^ n).natAbs = 2 ^ n := by rw [Int.natAbs_pow]; rfl
  rw [e]
  have h0 : (2 : Nat) ^ n ≠ 0 := Nat.ne_of_gt (Nat.pow_pos (by decide))
  exact (Nat.log2_lt h0).mpr (Nat.pow_lt_pow_right (by decide) h)
theorem pow_small {k bits : Int} (h : k < 0 + ((bits - 0).toNat : Int)) (hb : bits ≤ 11) : k.toNat < 9000 := by omega
section
variable {prog : Program} {w : World} {A : Around} {E : Value → Shared → Prop} {s : Shared} {Q : Value → Shared → Prop}
theorem pow2K {k bits : Int} {t u : Tok} (h0 : 0 ≤ k) (h1 : k < 0 + ((bits - 0).toNat : Int)) (hb : bits ≤ 11) (h : Q (.int (2 ^ k.toNat) s.toks) { s with toks := s.toks + 1 }) :
    wpAny (model prog w) A (binaryOp .Pow (.int 2 t) (.int k u)) Q E s := pow_int_small h0 (by omega) (by decide) h
theorem fd2 {a : Int} {n : Nat} {t u : Tok} (hn : n < 9000) (h : Q (.int (a.fdiv (2 ^ n)) s.toks) { s with toks := s.toks + 1 }) :
    wpAny (model prog w) A (binaryOp .FloorDiv (.int a t) (.int (2 ^ n) u)) Q E s :=
  floordiv_int (pow2_ne n) h (Or.inl (PyProof.noPylong_of_log2 (pow2_log hn)))
theorem mulBit {a b : Int} {t u : Tok} (h : Q (.int (a.fmod 2 * b) s.toks) { s with toks := s.toks + 1 }) :
    wpAny (model prog w) A (binaryOp .Mult (.int (a.fmod 2) t) (.int b u)) Q E s := by
  have h0 : 0 ≤ a.fmod 2 := Int.fmod_nonneg_of_pos _ (by decide)
  have h1 : a.fmod 2 < 2 := Int.fmod_lt_of_pos _ (by decide)
  refine mul_int h (IntMulOk.of_left (intBits_le_iff.mpr ?_))
  generalize a.fmod 2 = x at h0 h1
  omega
theorem modLit {a b : Int} {t u : Tok} (hb : b ≠ 0) (h : Q (.int (a.fmod b) s.toks) { s with toks := s.toks + 1 }) :
    wpAny (model prog w) A (binaryOp .Mod (.int a t) (.int b u)) Q E s := mod_int' hb h
end
/-- the lowest bits by their sum -/
theorem emod_two_pow_succ {p : Int} (hp : 0 ≤ p) (n : Nat) : p % 2 ^ (n + 1) = p % 2 ^ n + (p / 2 ^ n) % 2 * 2 ^ n := by
  obtain ⟨x, rfl⟩ := Int.eq_ofNat_of_zero_le hp
  have h : x % 2 ^ (n + 1) = x % 2 ^ n + 2 ^ n * (x / 2 ^ n % 2) := by rw [Nat.pow_succ, Nat.mod_mul]
  rw [Nat.mul_comm] at h
  have c : ∀ k : Nat, ((2 : Int) ^ k) = ((2 ^ k : Nat) : Int) := fun k => by rw [Int.natCast_pow]; rfl
  rw [c, c]
  exact_mod_cast h
theorem bits_sum {p : Int} (hp : 0 ≤ p) (bits : Int) : ((rangeKs 0 (bits - 0).toNat).map fun k => (p.fdiv (2 ^ k.toNat)).fmod 2 * 2 ^ k.toNat).sum = p % 2 ^ bits.toNat := by
  have e : (bits - 0).toNat = bits.toNat := by rw [Int.sub_zero]
  rw [e]
  generalize bits.toNat = n
  unfold rangeKs
  rw [List.map_map]
  induction n with
  | zero => simp [Int.emod_one]
  | succ n ih =>
    rw [List.range_succ, List.map_append, List.sum_append, ih, emod_two_pow_succ hp]
    have e2 : (0 + (n : Int)).toNat = n := by omega
    simp only [List.map_cons, List.map_nil, List.sum_cons, List.sum_nil, Function.comp, e2]
    rw [Int.fmod_eq_emod_of_nonneg _ (by decide), Int.fdiv_eq_ediv_of_nonneg _ (Int.le_of_lt (Int.pow_pos (by decide))), Int.add_zero]
set_option maxRecDepth 100000 in
set_option maxHeartbeats 8000000 in
theorem places_ok {w : World} {mean : ExcName → Option Value} {mg mb : Str → Option Value} {dp un : Nat} {gd : Option (List Code)} {cn : Str} {cs : Scope} {a : Addr} {ccd : Value} {cl : List (Str × Addr)} {outer : List Env} {A₀ : Around} {base h₀ : Heap} {L : Addr} {m : Str → Option Value} {s : Shared} {Q E : Value → Shared → Prop} {ks : List Int} {b : Array UInt8} {tb tm : Tok} {bits : Int} {news : List (Addr × Obj)}
    (B : Below A₀ base outer h₀) (F : Fr h₀ L s.heap m) (X : (hd.heap_39 w.params).In h₀) (N : News h₀ L s.heap news) (T : Top hd.view_39 (looseW hd.view_39 [Str.ofString "WORD", Str.ofString "LEAST_ADDRESS"]) mean mg mb h₀) (hk : cs.kind = .function) (hb : KBw.bInts b = ks) (hks : ks.length = 32) (hb0 : 3 ≤ bits) (hb1 : bits ≤ 11)
    (hd : dp + 2 < recursionLimit) (hu : un + 120 < cLine)
    (hret : ∀ l vs nl h' tk', IntsAre vs (placesOf ks bits) → (∀ p ∈ news, p.1 < l) → Fr h₀ L h' m → News h₀ L h' ((l, listOf vs.toArray nl) :: news) → Q (.ref l) { s with heap := h', toks := tk' }) :
    wpAny (model PySem.Challenge.rw_pq0387_01.row.prog w) (ktrTop dp un gd cn cs L a ccd cl outer) (call (.ref 171) [.bytes b tb, .int bits tm]) Q E s := by
  w_top off
  have NT : News h₀ L s.heap [] := News.nil
  have kB : ∀ k ∈ ks, 0 ≤ k ∧ k < 256 := fun k hk => by subst hb; exact KBw.ints_in hk
  have kD : ∀ i, 0 ≤ ks.getD i 0 ∧ ks.getD i 0 < 256 := fun i => KBw.getD_in kB
  have kP : ∀ i j, 0 ≤ ks.getD i 0 * 256 + ks.getD j 0 := fun i j => by have := kD i; have := kD j; omega
  revert X; k_fill; intro X
  refine wpAny_call ?_
  k_dflt (refine' code_defCP ?k1 ?k2 ?k3 ?k4 ?k5 ?kA ?kF ?kK ?k6 ?k7 ?k8 ?k9 ?kB ?kD ?_ ?c2 ?c3 ?c4; (case kA => exact rfl); (case kF => exact rfl); (case kK => assumption); (case k1 => k_asm); (case k2 => k_asm); (case k3 => k_asm); (case k4 => exact NT); (case k5 => k_asm); (case k6 => k_is); (case k7 => k_is); (case k8 => ktr_room); (case k9 => exact BindsTo.of_eq rfl); (case kB => exact rfl); (case kD => decide +kernel); (case c2 => exact rfl); (case c3 => exact rfl); (case c4 => exact rfl); k_whole; intro g' L' h' tk' cells' FG' F' N' Y' B' X' T' l1 kG kL; (try k_lt l1); k_cells Y'; (try simp only [List.cons_append, List.nil_append] at N'); (try dsimp only); (try k_lift B'); (try k_fold))
  repeat' (first | (with_reducible (k_here; (with_reducible show wpAny _ _ (binaryOp Operator.Pow (Value.int _ _) (Value.int _ _)) _ _ _); (with_reducible refine' pow2K ?hn7ZZ ?hn8ZZ ?hn9ZZ ?_); (case hn7ZZ => with_reducible assumption); (case hn8ZZ => with_reducible assumption); (case hn9ZZ => with_reducible assumption))) | (with_reducible (k_here; (with_reducible show wpAny _ _ (binaryOp Operator.Mod (Value.int _ _) (Value.int _ _)) _ _ _); (with_reducible refine modLit (by decide) ?_))) | (with_reducible (k_here; (with_reducible show wpAny _ _ (binaryOp Operator.Mult (Value.int _ _) (Value.int _ _)) _ _ _); (with_reducible refine mulBit ?_))) | (with_reducible (k_here; (with_reducible show wpAny _ _ (binaryOp Operator.FloorDiv (Value.int _ _) (Value.int _ _)) _ _ _); (with_reducible refine fd2 ?hn9ZZ ?_); (case hn9ZZ => exact pow_small (by with_reducible assumption) (by with_reducible assumption)))) | (k_unfold; (try dsimp only)) | (k_end; kc_close) | walk1 | (dsimp only; walk1) | (leave1; (try dsimp only)) | fail "no step")
  rename News h₀ L _ _ => kN
  simp only [List.push_toArray, List.nil_append, List.cons_append] at kN
  refine' hret _ _ _ _ _ ?h1 ?h2 ?h3 ?h4
  case h4 => exact news_cons (cb_drop kN (by kst_allIn)) (news_back (by assumption) kG N (by simp))
  case h1 => exact ints3 (bits_sum (kP _ _) _) (bits_sum (kP _ _) _) (bits_sum (kP _ _) _)
  case h3 => assumption
  case h2 =>
    intro p hp
    have := kL _ _ (N p hp).1
    rename (L' + 1 < _ ∧ True) => hll0
    have hll := hll0.1
    exact Nat.lt_trans this (Nat.lt_trans (Nat.lt_succ_self _) hll)
end
section
theorem fb_key {prog : Program} {w : World} {A : Around} {E : Value → Shared → Prop} {s : Shared} {Q : Value → Shared → Prop} {b : Array UInt8} {t u : Tok} {x L : Addr} {h₀ : Heap} {news : List (Addr × Obj)} {bs : List Int}
    (N : News h₀ L s.heap news) (hm : (x, KFB.bound) ∈ news) (hb : KBw.bInts b = List.map (fun c : UInt8 => (c.toNat : Int)) [1] ++ bs) (hl : bs.length ≤ 40)
    (h : ∀ t' k, Q (.int (keyOf bs) t') { s with toks := k }) : wpAny (model prog w) A (call (.ref x) [.bytes b t, .str (PySem.Str.ofString "big") u]) Q E s :=
  fb_wide N hm hb (by simp only [List.length_append, List.length_map, List.length_cons, List.length_nil]; omega) h
theorem has_put {c : List (Int × Int)} {k v : Int} (h : kdfHas c k = false) : kdfHas (kdfPut c k v) k = true := (knows_new h).1
theorem kdf_getItem {prog : Program} {w : World} {A : Around} {E : Value → Shared → Prop} {s : Shared} {d : Addr} {c : List (Int × Int)} {k : Int} {tk : Tok} {Q : Value → Shared → Prop}
    (T : IntTab prog w s.heap d (kdfD c)) (hk : kdfHas c k = true) (h : ∀ t, Q (.int (kdfLook c k 0) t) { s with toks := s.toks + 1 }) : wpAny (model prog w) A (getItem (.ref d) (.int k tk)) Q E s := by
  obtain ⟨lo, kvs, hd, hf⟩ := T
  obtain ⟨v, hv, hfl⟩ := hf.of_lookup PyProof.V.same_int (kdfD_item hk)
  obtain ⟨t, rfl⟩ := PyProof.V.Flat.int_inv hfl
  exact wpAny_getItem_of (intKind_is _ _ _ _) hd.mapOf hv (h t)
set_option maxRecDepth 100000 in
set_option maxHeartbeats 8000000 in
theorem num_ok {w : World} {mean : ExcName → Option Value} {mg mb : Str → Option Value} {dp un : Nat} {gd : Option (List Code)} {cn : Str} {cs : Scope} {a : Addr} {ccd : Value} {cl : List (Str × Addr)} {outer : List Env} {A₀ : Around} {base h₀ : Heap} {L : Addr} {m : Str → Option Value} {s : Shared} {Q E : Value → Shared → Prop} {x dx kd : Addr} {tkn tb : Tok} {nkd : Nat} {b : Array UInt8} {bs : List Int} {o : Obj} {c : List (Int × Int)} {news : List (Addr × Obj)} {news' : Obj → List (Addr × Obj)}
    (B : Below A₀ base outer h₀) (F : Fr h₀ L s.heap m) (X : (hd.heap_39 w.params).In h₀) (N : News h₀ L s.heap news) (T : Top hd.view_39 (looseW hd.view_39 [Str.ofString "WORD", Str.ofString "LEAST_ADDRESS"]) mean mg mb h₀) (hk : cs.kind = .function) (m1 : (x, instObj 138 dx) ∈ news) (m2 : (dx, dictOf [⟨PyData.keyHash w.params (Str.ofString "known"), .str (Str.ofString "known") tkn, .ref kd⟩] nkd) ∈ news) (m3 : (kd, o) ∈ news) (U : ∀ o', Upd kd o o' news (news' o')) (n1 : x ≠ dx) (n2 : x ≠ kd) (n3 : dx ≠ kd) (hs : (kd == sysModules) = false) (hb : KBw.bInts b = bs) (hbl : bs.length ≤ 40)
    (hD : Bears w o c) (hT : Tidy c) (hc : c.length ≤ 1000)
    (hd : dp + 2 < recursionLimit) (hu : un + 120 < cLine)
    (hret : ∀ n t o' c' h' tk', Knows c' (keyOf bs) n → Further c c' → c'.length ≤ c.length + 1 → Bears w o' c' → Fr h₀ L h' m → News h₀ L h' (news' o') → Q (.int n t) { s with heap := h', toks := tk' }) :
    wpAny (model PySem.Challenge.rw_pq0387_01.row.prog w) (ktrTop dp un gd cn cs L a ccd cl outer) (call (.ref 128) [.ref x, .bytes b tb]) Q E s := by
  w_top off
  obtain ⟨kvs, hD, hF⟩ := hD
  have NT : News h₀ L s.heap [(x, instObj 138 dx), (dx, dictOf [⟨PyData.keyHash w.params (Str.ofString "known"), .str (Str.ofString "known") tkn, .ref kd⟩] nkd), (kd, o)] := by
    intro p hp
    simp only [List.mem_cons, List.not_mem_nil, or_false] at hp
    rcases hp with rfl | rfl | rfl
    · exact N _ m1
    · exact N _ m2
    · exact N _ m3
  revert X; k_fill; intro X
  refine wpAny_call ?_
  k_dflt (refine' code_defP ?k1 ?k2 ?k3 ?k4 ?k5 ?kA ?kF ?kK ?k6 ?k7 ?k8 ?k9 ?kB ?_ ?c2 ?c3 ?c4 ?c5; (case kA => exact rfl); (case kF => exact rfl); (case kK => assumption); (case k1 => k_asm); (case k2 => k_asm); (case k3 => k_asm); (case k4 => exact NT); (case k5 => k_asm); (case k6 => k_is); (case k7 => k_is); (case k8 => ktr_room); (case k9 => exact BindsTo.of_eq rfl); (case c5 => decide); (case kB => exact locs rfl); (case c2 => exact rfl); (case c3 => exact rfl); (case c4 => exact rfl); k_whole; intro g' L' h' FG' F' N' B' X' T' kG kL; (try dsimp only); (try k_lift B'); (try k_fold))
  repeat' (first | (with_reducible (k_here; (with_reducible show wpAny _ _ (getItem (Value.ref _) (Value.int _ _)) _ _ _); k_dflt (refine kdf_getItem (by k_tabat) (by first | assumption | exact has_put (by assumption)) ?_); intro _)) | (k_here; (with_reducible show wpAny _ _ (getItem (Value.ref _) (Value.int _ _)) _ _ _); k_dflt (refine kdf_getItem (by k_tabat) (by first | assumption | exact has_put (by assumption)) ?_); intro _) | (with_reducible (k_here; (with_reducible show wpAny _ _ (call (Value.ref _) [Value.bytes _ _, Value.str _ _]) _ _ _); kfb_any; k_dflt (refine fb_key (by k_asm) (by k_mem) (by with_reducible assumption) (by with_reducible assumption) ?_); intro _ _)) | (k_here; (with_reducible show wpAny _ _ (call (Value.ref _) [Value.bytes _ _, Value.str _ _]) _ _ _); kfb_any; k_dflt (refine fb_key (by k_asm) (by k_mem) (by with_reducible assumption) (by with_reducible assumption) ?_); intro _ _) | (with_reducible (k_here; (with_reducible show wpAny _ _ (call (Value.type "bytes") _) _ _ _); (with_reducible refine bytes_same ?_))) | (k_unfold; (try dsimp only)) | (k_end; kc_close) | walk1 | (dsimp only; walk1) | (leave1; (try dsimp only)) | fail "no step")
  all_goals
    rename Fr h₀ L _ _ => kF
    rename News h₀ L _ _ => kN
    refine' hret _ _ _ _ _ _ ?h1 ?h2 ?h3 ?h4 kF ?h5
    case h5 =>
      refine news_turn N NT kN (fun p hp hf => Fr.keep (h₀ := g') (L := L') (by assumption) _ _ (kG _ _ (N p hp).1 hf)) ?_ ?_ (U _)
      rotate_left
      · k_mem
      · intro p hp hn
        simp only [List.mem_cons, List.not_mem_nil, or_false] at hp
        rcases hp with rfl | rfl | rfl <;> first | exact absurd rfl hn | k_mem
    case h4 => exact ⟨_, by assumption, by assumption⟩
    case h1 => exact ⟨by first | assumption | exact has_put (by assumption), rfl⟩
    case h2 => first | exact Further.refl hT | exact further_put (by assumption) hT
    case h3 => first | exact Nat.le_succ _ | exact Nat.le_of_eq (put_length (by assumption))
end
section
/-- the octets that a number's digest has -/
def digOct (n : Int) : List Int := [n % 256, n / 256 % 256, n / 256 / 256 % 256, n / 256 / 256 / 256 % 256] ++ octs 8 ((n * 281479271743489).fmod (1 * 2 ^ Int.toNat 64)) ++ octs 20 (605153021707326989568713251046585937826284568576 + n)
theorem digOct_length (n : Int) : (digOct n).length = 32 := by unfold digOct; simp only [List.length_append, octs_length, List.length_cons, List.length_nil]
theorem num_in {c c' : List (Int × Int)} {k n : Int} (h : Knows c' k n) (hf : Further c c') (hl : c'.length ≤ c.length + 1) (hc : c.length ≤ 1000) : 1 ≤ n ∧ n ≤ 1001 := by
  have := knows_in hf.1 h
  omega
theorem mid_in {a : Int} : 0 ≤ a.fmod (1 * 2 ^ Int.toNat 64) ∧ a.fmod (1 * 2 ^ Int.toNat 64) < 256 ^ 8 := by
  have e : (1 * 2 ^ Int.toNat 64 : Int) = 18446744073709551616 := by decide
  rw [e]
  exact ⟨Int.fmod_nonneg_of_pos _ (by decide), Int.fmod_lt_of_pos _ (by decide)⟩
theorem last_in {a : Int} (h0 : 1 ≤ a) (h1 : a ≤ 1001) : 0 ≤ 605153021707326989568713251046585937826284568576 + a ∧ 605153021707326989568713251046585937826284568576 + a < 256 ^ 20 := by
  have : (256 : Int) ^ 20 = 1461501637330902918203684832716283019655932542976 := by decide
  omega
set_option maxRecDepth 100000 in
set_option maxHeartbeats 8000000 in
theorem of_ok {w : World} {mean : ExcName → Option Value} {mg mb : Str → Option Value} {dp un : Nat} {gd : Option (List Code)} {cn : Str} {cs : Scope} {a : Addr} {ccd : Value} {cl : List (Str × Addr)} {outer : List Env} {A₀ : Around} {base h₀ : Heap} {L : Addr} {m : Str → Option Value} {s : Shared} {Q E : Value → Shared → Prop} {x dx kd : Addr} {tkn tb : Tok} {nkd : Nat} {b : Array UInt8} {bs : List Int} {o : Obj} {c : List (Int × Int)} {news : List (Addr × Obj)} {news' : Obj → List (Addr × Obj)}
    (B : Below A₀ base outer h₀) (F : Fr h₀ L s.heap m) (X : (hd.heap_39 w.params).In h₀) (N : News h₀ L s.heap news) (T : Top hd.view_39 (looseW hd.view_39 [Str.ofString "WORD", Str.ofString "LEAST_ADDRESS"]) mean mg mb h₀) (hk : cs.kind = .function) (m1 : (x, instObj 138 dx) ∈ news) (m2 : (dx, dictOf [⟨PyData.keyHash w.params (Str.ofString "known"), .str (Str.ofString "known") tkn, .ref kd⟩] nkd) ∈ news) (m3 : (kd, o) ∈ news) (U : ∀ o', Upd kd o o' news (news' o')) (n1 : x ≠ dx) (n2 : x ≠ kd) (n3 : dx ≠ kd) (hs : (kd == sysModules) = false) (hb : KBw.bInts b = bs) (hbl : bs.length ≤ 40)
    (hD : Bears w o c) (hT : Tidy c) (hc : c.length ≤ 1000)
    (hd : dp + 4 < recursionLimit) (hu : un + 140 < cLine)
    (hret : ∀ n (r : Array UInt8) t o' c' h' tk', Knows c' (keyOf bs) n → Further c c' → c'.length ≤ c.length + 1 → Bears w o' c' → KBw.bInts r = digOct n → Fr h₀ L h' m → News h₀ L h' (news' o') → Q (.bytes r t) { s with heap := h', toks := tk' }) :
    wpAny (model PySem.Challenge.rw_pq0387_01.row.prog w) (ktrTop dp un gd cn cs L a ccd cl outer) (call (.ref 135) [.ref x, .bytes b tb]) Q E s := by
  w_top off
  have NT : News h₀ L s.heap [(x, instObj 138 dx), (dx, dictOf [⟨PyData.keyHash w.params (Str.ofString "known"), .str (Str.ofString "known") tkn, .ref kd⟩] nkd), (kd, o)] := by
    intro p hp
    simp only [List.mem_cons, List.not_mem_nil, or_false] at hp
    rcases hp with rfl | rfl | rfl
    · exact N _ m1
    · exact N _ m2
    · exact N _ m3
  revert X; k_fill; intro X
  refine wpAny_call ?_
  k_dflt (refine' code_defP ?k1 ?k2 ?k3 ?k4 ?k5 ?kA ?kF ?kK ?k6 ?k7 ?k8 ?k9 ?kB ?_ ?c2 ?c3 ?c4 ?c5; (case kA => exact rfl); (case kF => exact rfl); (case kK => assumption); (case k1 => k_asm); (case k2 => k_asm); (case k3 => k_asm); (case k4 => exact NT); (case k5 => k_asm); (case k6 => k_is); (case k7 => k_is); (case k8 => ktr_room); (case k9 => exact BindsTo.of_eq rfl); (case c5 => decide); (case kB => exact locs rfl); (case c2 => exact rfl); (case c3 => exact rfl); (case c4 => exact rfl); k_whole; intro g' L' h' FG' F' N' B' X' T' kG kL; (try dsimp only); (try k_lift B'); (try k_fold))
  repeat' (first | (with_reducible (k_here; (with_reducible show wpAny _ _ (binaryOp Operator.Add (Value.bytes _ _) (Value.bytes _ _)) _ _ _); (with_reducible refine KBa.add_K (by with_reducible assumption) (by with_reducible assumption) (by simp only [List.length_append, List.length_cons, List.length_nil, octs_length]; omega) ?_); intro _ _ hbbZ)) | (with_reducible (k_here; (with_reducible show wpAny _ _ (call (Value.builtin "int.to_bytes") [Value.int _ _, Value.int _ _, Value.str (PySem.Str.ofString "big") _]) _ _ _); (first | (refine tb_wide (k := 8) (by decide) (by decide) mid_in.1 mid_in.2 ?_) | (refine tb_wide (k := 20) (by decide) (by decide) (last_in (by with_reducible assumption) (by with_reducible assumption)).1 (last_in (by with_reducible assumption) (by with_reducible assumption)).2 ?_)); intro _ _ _ hboZ)) | (k_here; (with_reducible show wpAny _ _ (call (Value.builtin "int.to_bytes") [Value.int _ _, Value.int _ _, Value.str (PySem.Str.ofString "big") _]) _ _ _); (first | (refine tb_wide (k := 8) (by decide) (by decide) mid_in.1 mid_in.2 ?_) | (refine tb_wide (k := 20) (by decide) (by decide) (last_in (by with_reducible assumption) (by with_reducible assumption)).1 (last_in (by with_reducible assumption) (by with_reducible assumption)).2 ?_)); intro _ _ _ hboZ) | (with_reducible (k_here; (with_reducible show wpAny _ _ (call (Value.ref 128) _) _ _ _); (k_dflt (refine' num_ok ?BZZ ?FZZ ?XZZ ?NZZ ?TZZ ?hkZZ ?m1ZZ ?m2ZZ ?m3ZZ ?UZZ ?n1ZZ ?n2ZZ ?n3ZZ ?hsZZ ?hbZZ ?hblZZ ?hDZZ ?hTZZ ?hcZZ ?hdZZ ?huZZ ?_; (case BZZ => k_asm); (case FZZ => k_asm); (case XZZ => k_asm); (case NZZ => k_asm); (case TZZ => k_asm); (case hkZZ => first | exact rfl | assumption); (case m1ZZ => k_mem); (case m2ZZ => k_mem); (case m3ZZ => k_mem); (case UZZ => intro o'Z; k_upd); (case n1ZZ => assumption); (case n2ZZ => assumption); (case n3ZZ => assumption); (case hsZZ => assumption); (case hbZZ => assumption); (case hblZZ => assumption); (case hDZZ => assumption); (case hTZZ => assumption); (case hcZZ => assumption); (case hdZZ => ktr_room); (case huZZ => ktr_units))); intro nZ tZ o'Z c'Z h'Z tk'Z hKnZ hFuZ hclZ hD'Z F'Z N'Z; (obtain ⟨hn0Z, hn1Z⟩ := num_in hKnZ hFuZ hclZ (by with_reducible assumption)); (try dsimp only))) | (k_here; (with_reducible show wpAny _ _ (call (Value.ref 128) _) _ _ _); (k_dflt (refine' num_ok ?BZZ ?FZZ ?XZZ ?NZZ ?TZZ ?hkZZ ?m1ZZ ?m2ZZ ?m3ZZ ?UZZ ?n1ZZ ?n2ZZ ?n3ZZ ?hsZZ ?hbZZ ?hblZZ ?hDZZ ?hTZZ ?hcZZ ?hdZZ ?huZZ ?_; (case BZZ => k_asm); (case FZZ => k_asm); (case XZZ => k_asm); (case NZZ => k_asm); (case TZZ => k_asm); (case hkZZ => first | exact rfl | assumption); (case m1ZZ => k_mem); (case m2ZZ => k_mem); (case m3ZZ => k_mem); (case UZZ => intro o'Z; k_upd); (case n1ZZ => assumption); (case n2ZZ => assumption); (case n3ZZ => assumption); (case hsZZ => assumption); (case hbZZ => assumption); (case hblZZ => assumption); (case hDZZ => assumption); (case hTZZ => assumption); (case hcZZ => assumption); (case hdZZ => ktr_room); (case huZZ => ktr_units))); intro nZ tZ o'Z c'Z h'Z tk'Z hKnZ hFuZ hclZ hD'Z F'Z N'Z; (obtain ⟨hn0Z, hn1Z⟩ := num_in hKnZ hFuZ hclZ (by with_reducible assumption)); (try dsimp only)) | (k_unfold; (try dsimp only)) | (k_end; kc_close) | walk1 | (dsimp only; walk1) | (leave1; (try dsimp only)) | fail "no step")
  rename Fr h₀ L _ _ => kF
  rename News h₀ L _ _ => kN
  refine' hret _ _ _ _ _ _ _ ?h1 ?h2 ?h3 ?h4 ?h6 kF ?h5
  case h5 =>
    refine news_turn N NT kN (fun p hp hf => Fr.keep (h₀ := g') (L := L') (by assumption) _ _ (kG _ _ (N p hp).1 hf)) ?_ ?_ (U _)
    rotate_left
    · k_mem
    · intro p hp hn
      simp only [List.mem_cons, List.not_mem_nil, or_false] at hp
      rcases hp with rfl | rfl | rfl <;> first | exact absurd rfl hn | k_mem
  case h6 => assumption
  case h4 => assumption
  case h1 => assumption
  case h2 => assumption
  case h3 => assumption
end
section
theorem low32 (ks : List Int) (h : ks.length ≤ 32) : (ks.drop (clipAt ks.length (-32))).take (ks.length - clipAt ks.length (-32)) = ks := by
  have : clipAt ks.length (-32) = 0 := by
    unfold clipAt
    simp
    omega
  rw [this]
  simp
set_option maxRecDepth 100000 in
set_option maxHeartbeats 8000000 in
theorem octets_word_ok {w : World} {mean : ExcName → Option Value} {mg mb : Str → Option Value} {dp un : Nat} {gd : Option (List Code)} {cn : Str} {cs : Scope} {a : Addr} {ccd : Value} {cl : List (Str × Addr)} {outer : List Env} {A₀ : Around} {base h₀ : Heap} {L : Addr} {m : Str → Option Value} {s : Shared} {Q E : Value → Shared → Prop} {b : Array UInt8} {tb : Tok} {ks : List Int} {news : List (Addr × Obj)}
    (B : Below A₀ base outer h₀) (F : Fr h₀ L s.heap m) (X : (hd.heap_39 w.params).In h₀) (N : News h₀ L s.heap news) (T : Top hd.view_39 (looseW hd.view_39 [Str.ofString "WORD", Str.ofString "LEAST_ADDRESS"]) mean mg mb h₀) (hk : cs.kind = .function) (hb : KBw.bInts b = ks) (hks : ks.length ≤ 32)
    (hd : dp + 2 < recursionLimit) (hu : un + 120 < cLine)
    (hret : ∀ t h' tk', Fr h₀ L h' m → News h₀ L h' news → Q (.int (KFB.value ks) t) { s with heap := h', toks := tk' }) :
    wpAny (model PySem.Challenge.rw_pq0387_01.row.prog w) (ktrTop dp un gd cn cs L a ccd cl outer) (call (.ref 55) [.bytes b tb]) Q E s := by
  w_top off
  have NT : News h₀ L s.heap [] := News.nil
  revert X; k_fill; intro X
  refine wpAny_call ?_
  k_dflt (refine' code_defP ?k1 ?k2 ?k3 ?k4 ?k5 ?kA ?kF ?kK ?k6 ?k7 ?k8 ?k9 ?kB ?_ ?c2 ?c3 ?c4 ?c5; (case kA => exact rfl); (case kF => exact rfl); (case kK => assumption); (case k1 => k_asm); (case k2 => k_asm); (case k3 => k_asm); (case k4 => exact NT); (case k5 => k_asm); (case k6 => k_is); (case k7 => k_is); (case k8 => ktr_room); (case k9 => exact BindsTo.of_eq rfl); (case c5 => decide); (case kB => exact locs rfl); (case c2 => exact rfl); (case c3 => exact rfl); (case c4 => exact rfl); k_whole; intro g' L' h' FG' F' N' B' X' T' kG kL; (try dsimp only); (try k_lift B'); (try k_fold))
  repeat' (first | (with_reducible (k_here; (with_reducible show wpAny _ _ (call (Value.ref _) [Value.bytes _ _, Value.str _ _]) _ _ _); kfb_any; k_dflt (refine fb_wide (by k_asm) (by k_mem) (by with_reducible assumption) (by simp only [List.length_take, List.length_drop]; omega) ?_); intro _ _)) | (k_here; (with_reducible show wpAny _ _ (call (Value.ref _) [Value.bytes _ _, Value.str _ _]) _ _ _); kfb_any; k_dflt (refine fb_wide (by k_asm) (by k_mem) (by with_reducible assumption) (by simp only [List.length_take, List.length_drop]; omega) ?_); intro _ _) | (k_unfold; (try dsimp only)) | (k_end; kc_close) | walk1 | (dsimp only; walk1) | (leave1; (try dsimp only)) | fail "no step")
  rename Fr h₀ L _ _ => kF
  rw [low32 _ hks]
  exact hret _ _ _ kF (news_back (by assumption) kG N (by simp))
theorem word_mod {n : Int} (h0 : 0 ≤ n) (h1 : n < 256 ^ 32) : n.fmod 115792089237316195423570985008687907853269984665640564039457584007913129639936 = n := by
  have e : (256 : Int) ^ 32 = 115792089237316195423570985008687907853269984665640564039457584007913129639936 := by decide
  rw [e] at h1
  rw [Int.fmod_eq_emod_of_nonneg _ (by decide)]
  exact Int.emod_eq_of_lt h0 h1
theorem tb_word {prog : Program} {w : World} {A : Around} {E : Value → Shared → Prop} {s : Shared} {Q : Value → Shared → Prop} {n : Int} {t u v : Tok} (h0 : 0 ≤ n) (h1 : n < 256 ^ 32) (h : ∀ (b : Array UInt8) t' k', KBw.bInts b = octs 32 n → Q (.bytes b t') { s with toks := k' }) :
    wpAny (model prog w) A (call (.builtin "int.to_bytes") [.int (n.fmod 115792089237316195423570985008687907853269984665640564039457584007913129639936) t, .int 32 u, .str (PySem.Str.ofString "big") v]) Q E s := by
  rw [word_mod h0 h1]
  exact tb_wide (k := 32) (by decide) (by decide) h0 h1 h
set_option maxRecDepth 100000 in
set_option maxHeartbeats 8000000 in
theorem word_octets_ok {w : World} {mean : ExcName → Option Value} {mg mb : Str → Option Value} {dp un : Nat} {gd : Option (List Code)} {cn : Str} {cs : Scope} {a : Addr} {ccd : Value} {cl : List (Str × Addr)} {outer : List Env} {A₀ : Around} {base h₀ : Heap} {L : Addr} {m : Str → Option Value} {s : Shared} {Q E : Value → Shared → Prop} {n : Int} {tb : Tok} {news : List (Addr × Obj)}
    (B : Below A₀ base outer h₀) (F : Fr h₀ L s.heap m) (X : (hd.heap_39 w.params).In h₀) (N : News h₀ L s.heap news) (T : Top hd.view_39 (looseW hd.view_39 [Str.ofString "WORD", Str.ofString "LEAST_ADDRESS"]) mean mg mb h₀) (hk : cs.kind = .function) (hn0 : 0 ≤ n) (hn1 : n < 256 ^ 32)
    (hd : dp + 4 < recursionLimit) (hu : un + 140 < cLine)
    (hret : ∀ (r : Array UInt8) t h' tk', KBw.bInts r = octs 32 n → Fr h₀ L h' m → News h₀ L h' news → Q (.bytes r t) { s with heap := h', toks := tk' }) :
    wpAny (model PySem.Challenge.rw_pq0387_01.row.prog w) (ktrTop dp un gd cn cs L a ccd cl outer) (call (.ref 48) [.int n tb]) Q E s := by
  w_top off
  have NT : News h₀ L s.heap [] := News.nil
  revert X; k_fill; intro X
  refine wpAny_call ?_
  k_dflt (refine' code_defP ?k1 ?k2 ?k3 ?k4 ?k5 ?kA ?kF ?kK ?k6 ?k7 ?k8 ?k9 ?kB ?_ ?c2 ?c3 ?c4 ?c5; (case kA => exact rfl); (case kF => exact rfl); (case kK => assumption); (case k1 => k_asm); (case k2 => k_asm); (case k3 => k_asm); (case k4 => exact NT); (case k5 => k_asm); (case k6 => k_is); (case k7 => k_is); (case k8 => ktr_room); (case k9 => exact BindsTo.of_eq rfl); (case c5 => decide); (case kB => exact locs rfl); (case c2 => exact rfl); (case c3 => exact rfl); (case c4 => exact rfl); k_whole; intro g' L' h' FG' F' N' B' X' T' kG kL; (try dsimp only); (try k_lift B'); (try k_fold))
  repeat' (first | (with_reducible (k_here; (with_reducible show wpAny _ _ (call (Value.builtin "int.to_bytes") _) _ _ _); (with_reducible refine tb_word (by with_reducible assumption) (by with_reducible assumption) ?_); intro _ _ _ hboZ)) | (with_reducible (k_here; (with_reducible show wpAny _ _ (call (Value.ref _) [Value.bytes _ _, Value.str _ _]) _ _ _); kfb_any; k_dflt (refine fb_wide (by k_asm) (by k_mem) (by with_reducible assumption) (by simp only [List.length_take, List.length_drop]; omega) ?_); intro _ _)) | (k_here; (with_reducible show wpAny _ _ (call (Value.ref _) [Value.bytes _ _, Value.str _ _]) _ _ _); kfb_any; k_dflt (refine fb_wide (by k_asm) (by k_mem) (by with_reducible assumption) (by simp only [List.length_take, List.length_drop]; omega) ?_); intro _ _) | (k_unfold; (try dsimp only)) | (k_end; kc_close) | walk1 | (dsimp only; walk1) | (leave1; (try dsimp only)) | fail "no step")
  rename Fr h₀ L _ _ => kF
  exact hret _ _ _ _ (by assumption) kF (news_back (by assumption) kG N (by simp))
end
section
set_option maxRecDepth 100000 in
set_option maxHeartbeats 8000000 in
theorem places_of_ok {w : World} {mean : ExcName → Option Value} {mg mb : Str → Option Value} {dp un : Nat} {gd : Option (List Code)} {cn : Str} {cs : Scope} {a : Addr} {ccd : Value} {cl : List (Str × Addr)} {outer : List Env} {A₀ : Around} {base h₀ : Heap} {L : Addr} {m : Str → Option Value} {s : Shared} {Q E : Value → Shared → Prop} {x dx kd : Addr} {tkn : Tok} {nkd : Nat} {o : Obj} {c : List (Int × Int)} {news : List (Addr × Obj)} {news' : Obj → List (Addr × Obj)} {b : Array UInt8} {bs : List Int} {tb tm : Tok} {bits : Int}
    (B : Below A₀ base outer h₀) (F : Fr h₀ L s.heap m) (X : (hd.heap_39 w.params).In h₀) (N : News h₀ L s.heap news) (T : Top hd.view_39 (looseW hd.view_39 [Str.ofString "WORD", Str.ofString "LEAST_ADDRESS"]) mean mg mb h₀) (hk : cs.kind = .function) (m1 : (x, instObj 138 dx) ∈ news) (m2 : (dx, dictOf [⟨PyData.keyHash w.params (Str.ofString "known"), .str (Str.ofString "known") tkn, .ref kd⟩] nkd) ∈ news) (m3 : (kd, o) ∈ news) (U : ∀ o', Upd kd o o' news (news' o')) (n1 : x ≠ dx) (n2 : x ≠ kd) (n3 : dx ≠ kd) (hs : (kd == sysModules) = false) (hD : Bears w o c) (hT : Tidy c) (hb : KBw.bInts b = bs) (hbl : bs.length ≤ 40) (hc : c.length ≤ 1000) (hb0 : 3 ≤ bits) (hb1 : bits ≤ 11)
    (hd : dp + 8 < recursionLimit) (hu : un + 180 < cLine)
    (hret : ∀ n l vs nl o' c' h' tk', Knows c' (keyOf bs) n → Further c c' → c'.length ≤ c.length + 1 → Bears w o' c' → IntsAre vs (placesOf (digOct n) bits) → (∀ p ∈ news, p.1 ≠ l) → Fr h₀ L h' m → News h₀ L h' ((l, listOf vs.toArray nl) :: news' o') → Q (.ref l) { s with heap := h', toks := tk' }) :
    wpAny (model PySem.Challenge.rw_pq0387_01.row.prog w) (ktrTop dp un gd cn cs L a ccd cl outer) (call (.ref 60) [.bytes b tb, .ref x, .int bits tm]) Q E s := by
  w_top off
  have NT : News h₀ L s.heap [(x, instObj 138 dx), (dx, dictOf [⟨PyData.keyHash w.params (Str.ofString "known"), .str (Str.ofString "known") tkn, .ref kd⟩] nkd), (kd, o)] := by
    intro p hp
    simp only [List.mem_cons, List.not_mem_nil, or_false] at hp
    rcases hp with rfl | rfl | rfl
    · exact N _ m1
    · exact N _ m2
    · exact N _ m3
  revert X; k_fill; intro X
  refine wpAny_call ?_
  k_dflt (refine' code_defCP ?k1 ?k2 ?k3 ?k4 ?k5 ?kA ?kF ?kK ?k6 ?k7 ?k8 ?k9 ?kB ?kD ?_ ?c2 ?c3 ?c4; (case kA => exact rfl); (case kF => exact rfl); (case kK => assumption); (case k1 => k_asm); (case k2 => k_asm); (case k3 => k_asm); (case k4 => exact NT); (case k5 => k_asm); (case k6 => k_is); (case k7 => k_is); (case k8 => ktr_room); (case k9 => exact BindsTo.of_eq rfl); (case kB => exact rfl); (case kD => decide +kernel); (case c2 => exact rfl); (case c3 => exact rfl); (case c4 => exact rfl); k_whole; intro g' L' h' tk' cells' FG' F' N' Y' B' X' T' l1 kG kL; (try k_lt l1); k_cells Y'; (try simp only [List.cons_append, List.nil_append] at N'); (try dsimp only); (try k_lift B'); (try k_fold))
  repeat' (first | (with_reducible (k_here; (with_reducible show wpAny _ _ (call (Value.ref 55) _) _ _ _); k_dflt (refine' octets_word_ok ?BZZ ?FZZ ?XZZ ?NZZ ?TZZ ?hkZZ ?hbZZ ?hksZZ ?hdZZ ?huZZ ?_; (case BZZ => k_asm); (case FZZ => k_asm); (case XZZ => k_asm); (case NZZ => k_asm); (case TZZ => k_asm); (case hkZZ => first | exact rfl | assumption); (case hbZZ => assumption); (case hksZZ => (simp only [List.length_take, List.length_drop]; omega)); (case hdZZ => ktr_room); (case huZZ => ktr_units)); intro tZ h'Z tk'Z F'Z N'Z; (try dsimp only))) | (k_here; (with_reducible show wpAny _ _ (call (Value.ref 55) _) _ _ _); k_dflt (refine' octets_word_ok ?BZZ ?FZZ ?XZZ ?NZZ ?TZZ ?hkZZ ?hbZZ ?hksZZ ?hdZZ ?huZZ ?_; (case BZZ => k_asm); (case FZZ => k_asm); (case XZZ => k_asm); (case NZZ => k_asm); (case TZZ => k_asm); (case hkZZ => first | exact rfl | assumption); (case hbZZ => assumption); (case hksZZ => (simp only [List.length_take, List.length_drop]; omega)); (case hdZZ => ktr_room); (case huZZ => ktr_units)); intro tZ h'Z tk'Z F'Z N'Z; (try dsimp only)) | (with_reducible (k_here; (with_reducible show SrcT ..); k_dflt (refine SrcT.intro (by rfl) (by k_asm) (by k_asm) (by k_mem) (by first | size_fits | exact Nat.le_of_ble_eq_true rfl) ?_; intro g'Z; lcg_lit))) | (k_here; (with_reducible show SrcT ..); k_dflt (refine SrcT.intro (by rfl) (by k_asm) (by k_asm) (by k_mem) (by first | size_fits | exact Nat.le_of_ble_eq_true rfl) ?_; intro g'Z; lcg_lit)) | (with_reducible (k_here; (with_reducible show wpAny _ _ (eval (Expr.ListComp _ [⟨Expr.Name _ _, Expr.Tuple _ _ _, _, _⟩] _ _) _) _ _ _); k_dflt (refine ListComp_Tu (F₀ := by k_asm) (by with_unfolding_all rfl) (by decide) (by rfl) (by decide) (by rfl) ?_))) | (k_here; (with_reducible show wpAny _ _ (eval (Expr.ListComp _ [⟨Expr.Name _ _, Expr.Tuple _ _ _, _, _⟩] _ _) _) _ _ _); k_dflt (refine ListComp_Tu (F₀ := by k_asm) (by with_unfolding_all rfl) (by decide) (by rfl) (by decide) (by rfl) ?_)) | (with_reducible (k_here; (with_reducible show wpAny _ _ (call (Value.ref 135) _) _ _ _); k_dflt (refine' of_ok ?BZZ ?FZZ ?XZZ ?NZZ ?TZZ ?hkZZ ?m1ZZ ?m2ZZ ?m3ZZ ?UZZ ?n1ZZ ?n2ZZ ?n3ZZ ?hsZZ ?hbZZ ?hblZZ ?hDZZ ?hTZZ ?hcZZ ?hdZZ ?huZZ ?_; (case BZZ => k_asm); (case FZZ => k_asm); (case XZZ => k_asm); (case NZZ => k_asm); (case TZZ => k_asm); (case hkZZ => first | exact rfl | assumption); (case m1ZZ => k_mem); (case m2ZZ => k_mem); (case m3ZZ => k_mem); (case UZZ => intro o'Z; k_upd); (case n1ZZ => assumption); (case n2ZZ => assumption); (case n3ZZ => assumption); (case hsZZ => assumption); (case hbZZ => assumption); (case hblZZ => assumption); (case hDZZ => assumption); (case hTZZ => assumption); (case hcZZ => assumption); (case hdZZ => ktr_room); (case huZZ => ktr_units)); intro nZ rZ tZ o'Z c'Z h'Z tk'Z hKnZ hFuZ hclZ hD'Z hrZ F'Z N'Z; (have hdlZ := digOct_length nZ); (try dsimp only))) | (k_here; (with_reducible show wpAny _ _ (call (Value.ref 135) _) _ _ _); k_dflt (refine' of_ok ?BZZ ?FZZ ?XZZ ?NZZ ?TZZ ?hkZZ ?m1ZZ ?m2ZZ ?m3ZZ ?UZZ ?n1ZZ ?n2ZZ ?n3ZZ ?hsZZ ?hbZZ ?hblZZ ?hDZZ ?hTZZ ?hcZZ ?hdZZ ?huZZ ?_; (case BZZ => k_asm); (case FZZ => k_asm); (case XZZ => k_asm); (case NZZ => k_asm); (case TZZ => k_asm); (case hkZZ => first | exact rfl | assumption); (case m1ZZ => k_mem); (case m2ZZ => k_mem); (case m3ZZ => k_mem); (case UZZ => intro o'Z; k_upd); (case n1ZZ => assumption); (case n2ZZ => assumption); (case n3ZZ => assumption); (case hsZZ => assumption); (case hbZZ => assumption); (case hblZZ => assumption); (case hDZZ => assumption); (case hTZZ => assumption); (case hcZZ => assumption); (case hdZZ => ktr_room); (case huZZ => ktr_units)); intro nZ rZ tZ o'Z c'Z h'Z tk'Z hKnZ hFuZ hclZ hD'Z hrZ F'Z N'Z; (have hdlZ := digOct_length nZ); (try dsimp only)) | (k_unfold; (try dsimp only)) | (k_end; kc_close) | walk1 | (dsimp only; walk1) | (leave1; (try dsimp only)) | fail "no step")
  rename Fr h₀ L _ _ => kF
  rename News h₀ L _ _ => kN
  rename News g' L' _ ((_, LCg.lst [_, _, _]) :: _) => kM
  rename _ ≠ _ ∧ _ ≠ _ ∧ _ ≠ _ ∧ _ ≠ _ ∧ _ ≠ _ ∧ _ ≠ _ => kO
  refine' hret _ _ _ _ _ _ _ _ ?h1 ?h2 ?h3 ?h4 ?h6 ?h7 kF ?h5
  case h5 =>
    refine news_cons (fun p hp => kN p (by rw [List.mem_singleton.mp hp]; exact .head _)) ?_
    refine news_turn N NT kN (fun p hp hf => Fr.keep (h₀ := g') (L := L') (by assumption) _ _ (kG _ _ (N p hp).1 hf)) ?_ ?_ (U _)
    rotate_left
    · k_mem
    · intro p hp hn
      simp only [List.mem_cons, List.not_mem_nil, or_false] at hp
      rcases hp with rfl | rfl | rfl <;> first | exact absurd rfl hn | k_mem
  case h7 =>
    refine new_off N kG kM ?_
    intro p hp
    simp only [List.mem_cons, List.not_mem_nil, or_false] at hp
    obtain ⟨_, _, _, o1, o2, o3⟩ := kO
    rcases hp with rfl | rfl | rfl <;> assumption
  case h6 => 
    refine ints3 ?_ ?_ ?_
    · exact (fmod_bits _ _).trans (by rw [pair0 (digOct_length _)])
    · exact (fmod_bits _ _).trans (by rw [pair2 (digOct_length _)])
    · exact (fmod_bits _ _).trans (by rw [pair4 (digOct_length _)])
  case h4 => assumption
  case h1 => assumption
  case h2 => assumption
  case h3 => assumption
end
section
section
variable {prog : Program} {w : World} {A : Around} {E : Value → Shared → Prop} {s : Shared} {Q : Value → Shared → Prop}
theorem mem3 {n : Int} {p q r : Nat} (h : n ∈ [(p : Int), (q : Int), (r : Int)]) (hp : p < 2048) (hq : q < 2048) (hr : r < 2048) : 0 ≤ n ∧ n ≤ 1000000 := by
  simp only [List.mem_cons, List.not_mem_nil, or_false] at h
  omega
theorem shlMem {n : Int} {p q r : Nat} {t u : Tok} (h : n ∈ [(p : Int), (q : Int), (r : Int)]) (hp : p < 2048) (hq : q < 2048) (hr : r < 2048) (hQ : Q (.int (1 * 2 ^ n.toNat) s.toks) { s with toks := s.toks + 1 }) :
    wpAny (model prog w) A (binaryOp .LShift (.int 1 t) (.int n u)) Q E s := lshift_int_small (mem3 h hp hq hr).1 (mem3 h hp hq hr).2 (by decide) hQ
theorem fold_or (B p q r : Nat) : List.foldl (fun a' n' => Builtin.bitOr a' (1 * 2 ^ Int.toNat n')) (B : Int) [(p : Int), (q : Int), (r : Int)] = (orAll B [p, q, r] : Nat) := by
  simp only [List.foldl_cons, List.foldl_nil, bitOr_pow, orAll]
end
set_option maxRecDepth 100000 in
set_option maxHeartbeats 8000000 in
theorem bloom_with_ok {w : World} {mean : ExcName → Option Value} {mg mb : Str → Option Value} {dp un : Nat} {gd : Option (List Code)} {cn : Str} {cs : Scope} {a : Addr} {ccd : Value} {cl : List (Str × Addr)} {outer : List Env} {A₀ : Around} {base h₀ : Heap} {L : Addr} {m : Str → Option Value} {s : Shared} {Q E : Value → Shared → Prop} {x dx kd : Addr} {tkn : Tok} {nkd : Nat} {o : Obj} {c : List (Int × Int)} {news : List (Addr × Obj)} {news' : Obj → List (Addr × Obj)} {b : Array UInt8} {bs : List Int} {Bl : Nat} {tB tb tm : Tok} {bits : Int}
    (B : Below A₀ base outer h₀) (F : Fr h₀ L s.heap m) (X : (hd.heap_39 w.params).In h₀) (N : News h₀ L s.heap news) (T : Top hd.view_39 (looseW hd.view_39 [Str.ofString "WORD", Str.ofString "LEAST_ADDRESS"]) mean mg mb h₀) (hk : cs.kind = .function) (m1 : (x, instObj 138 dx) ∈ news) (m2 : (dx, dictOf [⟨PyData.keyHash w.params (Str.ofString "known"), .str (Str.ofString "known") tkn, .ref kd⟩] nkd) ∈ news) (m3 : (kd, o) ∈ news) (U : ∀ o', Upd kd o o' news (news' o')) (n1 : x ≠ dx) (n2 : x ≠ kd) (n3 : dx ≠ kd) (hs : (kd == sysModules) = false) (hD : Bears w o c) (hT : Tidy c) (hb : KBw.bInts b = bs) (hbl : bs.length ≤ 40) (hc : c.length ≤ 1000) (hb0 : 3 ≤ bits) (hb1 : bits ≤ 11)
    (hd : dp + 10 < recursionLimit) (hu : un + 200 < cLine)
    (hret : ∀ n t o' c' h' tk', Knows c' (keyOf bs) n → Further c c' → c'.length ≤ c.length + 1 → Bears w o' c' → Fr h₀ L h' m → News h₀ L h' (news' o') → Q (.int (orAll Bl (spots (digOct n) bits) : Nat) t) { s with heap := h', toks := tk' }) :
    wpAny (model PySem.Challenge.rw_pq0387_01.row.prog w) (ktrTop dp un gd cn cs L a ccd cl outer) (call (.ref 67) [.int (Bl : Int) tB, .bytes b tb, .ref x, .int bits tm]) Q E s := by
  w_top off
  have NT : News h₀ L s.heap [(x, instObj 138 dx), (dx, dictOf [⟨PyData.keyHash w.params (Str.ofString "known"), .str (Str.ofString "known") tkn, .ref kd⟩] nkd), (kd, o)] := by
    intro p hp
    simp only [List.mem_cons, List.not_mem_nil, or_false] at hp
    rcases hp with rfl | rfl | rfl
    · exact N _ m1
    · exact N _ m2
    · exact N _ m3
  revert X; k_fill; intro X
  refine wpAny_call ?_
  k_dflt (refine' code_defP ?k1 ?k2 ?k3 ?k4 ?k5 ?kA ?kF ?kK ?k6 ?k7 ?k8 ?k9 ?kB ?_ ?c2 ?c3 ?c4 ?c5; (case kA => exact rfl); (case kF => exact rfl); (case kK => assumption); (case k1 => k_asm); (case k2 => k_asm); (case k3 => k_asm); (case k4 => exact NT); (case k5 => k_asm); (case k6 => k_is); (case k7 => k_is); (case k8 => ktr_room); (case k9 => exact BindsTo.of_eq rfl); (case c5 => decide); (case kB => exact locs rfl); (case c2 => exact rfl); (case c3 => exact rfl); (case c4 => exact rfl); k_whole; intro g' L' h' FG' F' N' B' X' T' kG kL; (try dsimp only); (try k_lift B'); (try k_fold))
  repeat' (first | (with_reducible (k_here; (with_reducible show wpAny _ _ (call (Value.ref 60) _) _ _ _); k_dflt (refine' places_of_ok ?BZZ ?FZZ ?XZZ ?NZZ ?TZZ ?hkZZ ?m1ZZ ?m2ZZ ?m3ZZ ?UZZ ?n1ZZ ?n2ZZ ?n3ZZ ?hsZZ ?hDZZ ?hTZZ ?hbZZ ?hblZZ ?hcZZ ?hb0ZZ ?hb1ZZ ?hdZZ ?huZZ ?_; (case BZZ => k_asm); (case FZZ => k_asm); (case XZZ => k_asm); (case NZZ => k_asm); (case TZZ => k_asm); (case hkZZ => first | exact rfl | assumption); (case m1ZZ => k_mem); (case m2ZZ => k_mem); (case m3ZZ => k_mem); (case UZZ => intro o'Z; k_upd); (case n1ZZ => assumption); (case n2ZZ => assumption); (case n3ZZ => assumption); (case hsZZ => assumption); (case hDZZ => assumption); (case hTZZ => assumption); (case hbZZ => assumption); (case hblZZ => assumption); (case hcZZ => assumption); (case hb0ZZ => assumption); (case hb1ZZ => assumption); (case hdZZ => ktr_room); (case huZZ => ktr_units)); intro nZ lZ vsZ nlZ o'Z c'Z h'Z tk'Z hKnZ hFuZ hclZ hD'Z hIZ hoffZ F'Z N'Z; (obtain ⟨p1Z, p2Z, p3Z, t1Z, t2Z, t3Z, hvsZ, hspZ, hp1Z, hp2Z, hp3Z⟩ := spots_inv hIZ (by with_reducible assumption)); (subst hvsZ); (clear hIZ); (try dsimp only))) | (k_here; (with_reducible show wpAny _ _ (call (Value.ref 60) _) _ _ _); k_dflt (refine' places_of_ok ?BZZ ?FZZ ?XZZ ?NZZ ?TZZ ?hkZZ ?m1ZZ ?m2ZZ ?m3ZZ ?UZZ ?n1ZZ ?n2ZZ ?n3ZZ ?hsZZ ?hDZZ ?hTZZ ?hbZZ ?hblZZ ?hcZZ ?hb0ZZ ?hb1ZZ ?hdZZ ?huZZ ?_; (case BZZ => k_asm); (case FZZ => k_asm); (case XZZ => k_asm); (case NZZ => k_asm); (case TZZ => k_asm); (case hkZZ => first | exact rfl | assumption); (case m1ZZ => k_mem); (case m2ZZ => k_mem); (case m3ZZ => k_mem); (case UZZ => intro o'Z; k_upd); (case n1ZZ => assumption); (case n2ZZ => assumption); (case n3ZZ => assumption); (case hsZZ => assumption); (case hDZZ => assumption); (case hTZZ => assumption); (case hbZZ => assumption); (case hblZZ => assumption); (case hcZZ => assumption); (case hb0ZZ => assumption); (case hb1ZZ => assumption); (case hdZZ => ktr_room); (case huZZ => ktr_units)); intro nZ lZ vsZ nlZ o'Z c'Z h'Z tk'Z hKnZ hFuZ hclZ hD'Z hIZ hoffZ F'Z N'Z; (obtain ⟨p1Z, p2Z, p3Z, t1Z, t2Z, t3Z, hvsZ, hspZ, hp1Z, hp2Z, hp3Z⟩ := spots_inv hIZ (by with_reducible assumption)); (subst hvsZ); (clear hIZ); (try dsimp only)) | (with_reducible (k_here; (with_reducible show wpAny _ _ (binaryOp Operator.LShift (Value.int _ _) (Value.int _ _)) _ _ _); (with_reducible refine shlMem (by assumption) (by assumption) (by assumption) (by assumption) ?_))) | (k_unfold; (try dsimp only)) | (k_end; kc_close) | walk1 | (dsimp only; walk1) | (leave1; (try dsimp only)) | fail "no step")
  rename Fr h₀ L _ _ => kF
  rename News h₀ L _ _ => kN
  rename spots _ _ = _ => kS
  rw [fold_or, ← kS]
  refine' hret _ _ _ _ _ _ ?h1 ?h2 ?h3 ?h4 kF ?h5
  case h5 =>
    refine news_turn N NT kN (fun p hp hf => Fr.keep (h₀ := g') (L := L') (by assumption) _ _ (kG _ _ (N p hp).1 hf)) ?_ ?_ (U _)
    rotate_left
    · k_mem
    · intro p hp hn
      simp only [List.mem_cons, List.not_mem_nil, or_false] at hp
      rcases hp with rfl | rfl | rfl <;> first | exact absurd rfl hn | k_mem
  case h4 => assumption
  case h1 => assumption
  case h2 => assumption
  case h3 => assumption
end
section
theorem bit_at (B p : Nat) : (Builtin.bitAnd (Int.fdiv (B : Int) (2 ^ ((p : Nat) : Int).toNat)) 1 == 1) = B.testBit p := by
  rw [bitAnd_m1, Nat.testBit_eq_decide_div_mod_eq]
  have e : Int.fdiv (B : Int) (2 ^ ((p : Nat) : Int).toNat) = ((B / 2 ^ p : Nat) : Int) := by
    rw [Int.fdiv_eq_ediv_of_nonneg _ (Int.le_of_lt (Int.pow_pos (by decide))), Int.toNat_natCast]
    rfl
  rw [e]
  rcases Nat.mod_two_eq_zero_or_one (B / 2 ^ p) with h | h
  · rw [show ((B / 2 ^ p : Nat) : Int) % 2 = 0 by omega, h]; rfl
  · rw [show ((B / 2 ^ p : Nat) : Int) % 2 = 1 by omega, h]; rfl
theorem all3 (B p q r : Nat) : (Builtin.bitAnd (Int.fdiv (B : Int) (2 ^ ((p : Nat) : Int).toNat)) 1 == 1 && (Builtin.bitAnd (Int.fdiv (B : Int) (2 ^ ((q : Nat) : Int).toNat)) 1 == 1 && Builtin.bitAnd (Int.fdiv (B : Int) (2 ^ ((r : Nat) : Int).toNat)) 1 == 1)) = [p, q, r].all fun q => B.testBit q := by
  rw [bit_at, bit_at, bit_at]
  simp
set_option maxRecDepth 100000 in
set_option maxHeartbeats 8000000 in
theorem may_hold_ok {w : World} {mean : ExcName → Option Value} {mg mb : Str → Option Value} {dp un : Nat} {gd : Option (List Code)} {cn : Str} {cs : Scope} {a : Addr} {ccd : Value} {cl : List (Str × Addr)} {outer : List Env} {A₀ : Around} {base h₀ : Heap} {L : Addr} {m : Str → Option Value} {s : Shared} {Q E : Value → Shared → Prop} {x dx kd : Addr} {tkn : Tok} {nkd : Nat} {o : Obj} {c : List (Int × Int)} {news : List (Addr × Obj)} {news' : Obj → List (Addr × Obj)} {b : Array UInt8} {bs : List Int} {Bl : Nat} {tB tb tm : Tok} {bits : Int}
    (B : Below A₀ base outer h₀) (F : Fr h₀ L s.heap m) (X : (hd.heap_39 w.params).In h₀) (N : News h₀ L s.heap news) (T : Top hd.view_39 (looseW hd.view_39 [Str.ofString "WORD", Str.ofString "LEAST_ADDRESS"]) mean mg mb h₀) (hk : cs.kind = .function) (m1 : (x, instObj 138 dx) ∈ news) (m2 : (dx, dictOf [⟨PyData.keyHash w.params (Str.ofString "known"), .str (Str.ofString "known") tkn, .ref kd⟩] nkd) ∈ news) (m3 : (kd, o) ∈ news) (U : ∀ o', Upd kd o o' news (news' o')) (n1 : x ≠ dx) (n2 : x ≠ kd) (n3 : dx ≠ kd) (hs : (kd == sysModules) = false) (hD : Bears w o c) (hT : Tidy c) (hb : KBw.bInts b = bs) (hbl : bs.length ≤ 40) (hc : c.length ≤ 1000) (hb0 : 3 ≤ bits) (hb1 : bits ≤ 11)
    (hd : dp + 10 < recursionLimit) (hu : un + 200 < cLine)
    (hret : ∀ n o' c' h' tk', Knows c' (keyOf bs) n → Further c c' → c'.length ≤ c.length + 1 → Bears w o' c' → Fr h₀ L h' m → News h₀ L h' (news' o') → Q (.bool ((spots (digOct n) bits).all fun q => Bl.testBit q)) { s with heap := h', toks := tk' }) :
    wpAny (model PySem.Challenge.rw_pq0387_01.row.prog w) (ktrTop dp un gd cn cs L a ccd cl outer) (call (.ref 79) [.int (Bl : Int) tB, .bytes b tb, .ref x, .int bits tm]) Q E s := by
  w_top off
  have NT : News h₀ L s.heap [(x, instObj 138 dx), (dx, dictOf [⟨PyData.keyHash w.params (Str.ofString "known"), .str (Str.ofString "known") tkn, .ref kd⟩] nkd), (kd, o)] := by
    intro p hp
    simp only [List.mem_cons, List.not_mem_nil, or_false] at hp
    rcases hp with rfl | rfl | rfl
    · exact N _ m1
    · exact N _ m2
    · exact N _ m3
  revert X; k_fill; intro X
  refine wpAny_call ?_
  k_dflt (refine' code_defCP ?k1 ?k2 ?k3 ?k4 ?k5 ?kA ?kF ?kK ?k6 ?k7 ?k8 ?k9 ?kB ?kD ?_ ?c2 ?c3 ?c4; (case kA => exact rfl); (case kF => exact rfl); (case kK => assumption); (case k1 => k_asm); (case k2 => k_asm); (case k3 => k_asm); (case k4 => exact NT); (case k5 => k_asm); (case k6 => k_is); (case k7 => k_is); (case k8 => ktr_room); (case k9 => exact BindsTo.of_eq rfl); (case kB => exact rfl); (case kD => decide +kernel); (case c2 => exact rfl); (case c3 => exact rfl); (case c4 => exact rfl); k_whole; intro g' L' h' tk' cells' FG' F' N' Y' B' X' T' l1 kG kL; (try k_lt l1); k_cells Y'; (try simp only [List.cons_append, List.nil_append] at N'); (try dsimp only); (try k_lift B'); (try k_fold))
  repeat' (first | (with_reducible (k_here; (with_reducible show wpAny _ _ (call (Value.ref 60) _) _ _ _); k_dflt (refine' places_of_ok ?BZZ ?FZZ ?XZZ ?NZZ ?TZZ ?hkZZ ?m1ZZ ?m2ZZ ?m3ZZ ?UZZ ?n1ZZ ?n2ZZ ?n3ZZ ?hsZZ ?hDZZ ?hTZZ ?hbZZ ?hblZZ ?hcZZ ?hb0ZZ ?hb1ZZ ?hdZZ ?huZZ ?_; (case BZZ => k_asm); (case FZZ => k_asm); (case XZZ => k_asm); (case NZZ => k_asm); (case TZZ => k_asm); (case hkZZ => first | exact rfl | assumption); (case m1ZZ => k_mem); (case m2ZZ => k_mem); (case m3ZZ => k_mem); (case UZZ => intro o'Z; k_upd); (case n1ZZ => assumption); (case n2ZZ => assumption); (case n3ZZ => assumption); (case hsZZ => assumption); (case hDZZ => assumption); (case hTZZ => assumption); (case hbZZ => assumption); (case hblZZ => assumption); (case hcZZ => assumption); (case hb0ZZ => assumption); (case hb1ZZ => assumption); (case hdZZ => ktr_room); (case huZZ => ktr_units)); intro nZ lZ vsZ nlZ o'Z c'Z h'Z tk'Z hKnZ hFuZ hclZ hD'Z hIZ hoffZ F'Z N'Z; (obtain ⟨p1Z, p2Z, p3Z, t1Z, t2Z, t3Z, hvsZ, hspZ, hp1Z, hp2Z, hp3Z⟩ := spots_inv hIZ (by with_reducible assumption)); (subst hvsZ); (clear hIZ); (simp only [List.forall_mem_cons] at hoffZ); (try dsimp only))) | (k_here; (with_reducible show wpAny _ _ (call (Value.ref 60) _) _ _ _); k_dflt (refine' places_of_ok ?BZZ ?FZZ ?XZZ ?NZZ ?TZZ ?hkZZ ?m1ZZ ?m2ZZ ?m3ZZ ?UZZ ?n1ZZ ?n2ZZ ?n3ZZ ?hsZZ ?hDZZ ?hTZZ ?hbZZ ?hblZZ ?hcZZ ?hb0ZZ ?hb1ZZ ?hdZZ ?huZZ ?_; (case BZZ => k_asm); (case FZZ => k_asm); (case XZZ => k_asm); (case NZZ => k_asm); (case TZZ => k_asm); (case hkZZ => first | exact rfl | assumption); (case m1ZZ => k_mem); (case m2ZZ => k_mem); (case m3ZZ => k_mem); (case UZZ => intro o'Z; k_upd); (case n1ZZ => assumption); (case n2ZZ => assumption); (case n3ZZ => assumption); (case hsZZ => assumption); (case hDZZ => assumption); (case hTZZ => assumption); (case hbZZ => assumption); (case hblZZ => assumption); (case hcZZ => assumption); (case hb0ZZ => assumption); (case hb1ZZ => assumption); (case hdZZ => ktr_room); (case huZZ => ktr_units)); intro nZ lZ vsZ nlZ o'Z c'Z h'Z tk'Z hKnZ hFuZ hclZ hD'Z hIZ hoffZ F'Z N'Z; (obtain ⟨p1Z, p2Z, p3Z, t1Z, t2Z, t3Z, hvsZ, hspZ, hp1Z, hp2Z, hp3Z⟩ := spots_inv hIZ (by with_reducible assumption)); (subst hvsZ); (clear hIZ); (simp only [List.forall_mem_cons] at hoffZ); (try dsimp only)) | (with_reducible (k_here; (with_reducible show LCg.CompSrc ..); k_dflt (refine LCg.CompSrc.ledger (by rfl) (by k_asm) (by k_asm) (by k_mem) (by first | size_fits | exact Nat.le_of_ble_eq_true rfl) ?_; intro g'Z; lcg_lit))) | (k_here; (with_reducible show LCg.CompSrc ..); k_dflt (refine LCg.CompSrc.ledger (by rfl) (by k_asm) (by k_asm) (by k_mem) (by first | size_fits | exact Nat.le_of_ble_eq_true rfl) ?_; intro g'Z; lcg_lit)) | (with_reducible (k_here; (with_reducible show wpAny _ _ (eval (Expr.ListComp _ _ _ _) _) _ _ _); lcf_look; k_dflt (refine LCg.ListComp_U (F₀ := by k_asm) (by with_unfolding_all rfl) (by decide) (by rfl) (by decide) (by rfl) ?_))) | (k_here; (with_reducible show wpAny _ _ (eval (Expr.ListComp _ _ _ _) _) _ _ _); lcf_look; k_dflt (refine LCg.ListComp_U (F₀ := by k_asm) (by with_unfolding_all rfl) (by decide) (by rfl) (by decide) (by rfl) ?_)) | (k_unfold; (try dsimp only)) | (k_end; kc_close) | walk1 | (dsimp only; walk1) | (leave1; (try dsimp only)) | fail "no step")
  rename Fr h₀ L _ _ => kF
  rename News h₀ L _ _ => kN
  rename spots _ _ = _ => kS
  rw [all3, ← kS]
  refine' hret _ _ _ _ _ ?h1 ?h2 ?h3 ?h4 kF ?h5
  case h5 =>
    refine news_turn N NT kN (fun p hp hf => Fr.keep (h₀ := g') (L := L') (by assumption) _ _ (kG _ _ (N p hp).1 hf)) ?_ ?_ (U _)
    rotate_left
    · k_mem
    · intro p hp hn
      simp only [List.mem_cons, List.not_mem_nil, or_false] at hp
      rcases hp with rfl | rfl | rfl <;> first | exact absurd rfl hn | k_mem
  case h4 => assumption
  case h1 => assumption
  case h2 => assumption
  case h3 => assumption
end
section
/-- how many octets a bloom has -/
def wide (bits : Int) : Nat := 2 ^ bits.toNat / 8
theorem wide_le {bits : Int} (h : bits ≤ 11) : wide bits ≤ 256 := by
  unfold wide
  have h2 : (2 : Nat) ^ bits.toNat ≤ 2 ^ 11 := Nat.pow_le_pow_right (by decide) (by omega)
  have h4 : (2 : Nat) ^ 11 = 2048 := by decide
  omega
theorem wide_pow {bits : Int} (h : 3 ≤ bits) : 256 ^ wide bits = 2 ^ 2 ^ bits.toNat := by
  unfold wide
  obtain ⟨k, hk⟩ : ∃ k : Nat, bits.toNat = k + 3 := ⟨bits.toNat - 3, by omega⟩
  have e : (2 : Nat) ^ 3 = 8 := by decide
  rw [hk, Nat.pow_add, e, Nat.mul_div_cancel _ (by decide), Nat.mul_comm, Nat.pow_mul]
theorem wide_val (bits : Int) : Int.fdiv (1 * 2 ^ bits.toNat) 8 = (wide bits : Int) := by
  unfold wide
  rw [Int.one_mul, Int.fdiv_eq_ediv_of_nonneg _ (by decide)]
  have h3 : (2 : Int) ^ bits.toNat = ((2 ^ bits.toNat : Nat) : Int) := by rw [Int.natCast_pow]; rfl
  rw [h3]
  rfl
theorem pow_le16 {b : Int} (h0 : 0 ≤ b) (h1 : b ≤ 16) : (0 : Int) ≤ 1 * 2 ^ b.toNat ∧ (1 : Int) * 2 ^ b.toNat ≤ 1000000 := by
  have h2 : (2 : Nat) ^ b.toNat ≤ 2 ^ 16 := Nat.pow_le_pow_right (by decide) (by omega)
  have h3 : (2 : Int) ^ b.toNat = ((2 ^ b.toNat : Nat) : Int) := by rw [Int.natCast_pow]; rfl
  have h4 : (2 : Nat) ^ 16 = 65536 := by decide
  rw [h4] at h2
  rw [Int.one_mul, h3]
  generalize 2 ^ b.toNat = x at h2
  omega
theorem lim_val (bits : Int) : (1 * 2 ^ Int.toNat (1 * 2 ^ bits.toNat) : Int) = ((2 ^ 2 ^ bits.toNat : Nat) : Int) := by
  have h3 : (2 : Int) ^ bits.toNat = ((2 ^ bits.toNat : Nat) : Int) := by rw [Int.natCast_pow]; rfl
  rw [Int.one_mul, Int.one_mul, h3, Int.toNat_natCast, Int.natCast_pow]
  rfl
section
variable {prog : Program} {w : World} {A : Around} {E : Value → Shared → Prop} {s : Shared} {Q : Value → Shared → Prop}
theorem shlBits {b : Int} {t u : Tok} (h0 : 3 ≤ b) (h1 : b ≤ 16) (h : Q (.int (1 * 2 ^ b.toNat) s.toks) { s with toks := s.toks + 1 }) :
    wpAny (model prog w) A (binaryOp .LShift (.int 1 t) (.int b u)) Q E s := lshift_int_small (by omega) (by omega) (by decide) h
theorem shlPow {b : Int} {t u : Tok} (h0 : 3 ≤ b) (h1 : b ≤ 16) (h : Q (.int (1 * 2 ^ Int.toNat (1 * 2 ^ b.toNat)) s.toks) { s with toks := s.toks + 1 }) :
    wpAny (model prog w) A (binaryOp .LShift (.int 1 t) (.int (1 * 2 ^ b.toNat) u)) Q E s := lshift_int_small (pow_le16 (by omega) h1).1 (pow_le16 (by omega) h1).2 (by decide) h
theorem tb_bloom {b : Int} {n : Nat} {t u v : Tok} (h0 : 3 ≤ b) (h1 : b ≤ 11) (hn : n < 2 ^ 2 ^ b.toNat) (h : ∀ (r : Array UInt8) t' k', KBw.bInts r = octs (wide b) n → Q (.bytes r t') { s with toks := k' }) :
    wpAny (model prog w) A (call (.builtin "int.to_bytes") [.int (n : Int) t, .int (Int.fdiv (1 * 2 ^ b.toNat) 8) u, .str (PySem.Str.ofString "big") v]) Q E s := by
  refine tb_wide (k := wide b) (wide_val b) (Nat.le_trans (wide_le h1) (by decide)) (by omega) ?_ h
  rw [← wide_pow h0] at hn
  have : ((256 ^ wide b : Nat) : Int) = (256 : Int) ^ wide b := by rw [Int.natCast_pow]; rfl
  omega
theorem fd8 {a : Int} {t u : Tok} (h : Q (.int (a.fdiv 8) s.toks) { s with toks := s.toks + 1 }) : wpAny (model prog w) A (binaryOp .FloorDiv (.int a t) (.int 8 u)) Q E s :=
  floordiv_int (by decide) h (Or.inl (PyProof.noPylong_of_log2 (by decide +kernel)))
end
theorem le16 {b : Int} (h : b ≤ 11) : b ≤ 16 := by omega
theorem lt_lim {n : Nat} {b : Int} (h : n < 2 ^ 2 ^ b.toNat) : (n : Int) < 1 * 2 ^ Int.toNat (1 * 2 ^ b.toNat) := by rw [lim_val]; omega
set_option maxRecDepth 100000 in
set_option maxHeartbeats 8000000 in
theorem bloom_octets_ok {w : World} {mean : ExcName → Option Value} {mg mb : Str → Option Value} {dp un : Nat} {gd : Option (List Code)} {cn : Str} {cs : Scope} {a : Addr} {ccd : Value} {cl : List (Str × Addr)} {outer : List Env} {A₀ : Around} {base h₀ : Heap} {L : Addr} {m : Str → Option Value} {s : Shared} {Q E : Value → Shared → Prop} {bits : Int} {Bl : Nat} {tB tm : Tok} {news : List (Addr × Obj)}
    (B : Below A₀ base outer h₀) (F : Fr h₀ L s.heap m) (X : (hd.heap_39 w.params).In h₀) (N : News h₀ L s.heap news) (T : Top hd.view_39 (looseW hd.view_39 [Str.ofString "WORD", Str.ofString "LEAST_ADDRESS"]) mean mg mb h₀) (hk : cs.kind = .function) (hb0 : 3 ≤ bits) (hb1 : bits ≤ 11) (hlt : Bl < 2 ^ 2 ^ bits.toNat)
    (hd : dp + 4 < recursionLimit) (hu : un + 140 < cLine)
    (hret : ∀ (r : Array UInt8) t h' tk', KBw.bInts r = octs (wide bits) Bl → Fr h₀ L h' m → News h₀ L h' news → Q (.bytes r t) { s with heap := h', toks := tk' }) :
    wpAny (model PySem.Challenge.rw_pq0387_01.row.prog w) (ktrTop dp un gd cn cs L a ccd cl outer) (call (.ref 86) [.int (Bl : Int) tB, .int bits tm]) Q E s := by
  w_top off
  have NT : News h₀ L s.heap [] := News.nil
  have hb2 := le16 hb1
  have hl2 := lt_lim hlt
  revert X; k_fill; intro X
  refine wpAny_call ?_
  k_dflt (refine' code_defP ?k1 ?k2 ?k3 ?k4 ?k5 ?kA ?kF ?kK ?k6 ?k7 ?k8 ?k9 ?kB ?_ ?c2 ?c3 ?c4 ?c5; (case kA => exact rfl); (case kF => exact rfl); (case kK => assumption); (case k1 => k_asm); (case k2 => k_asm); (case k3 => k_asm); (case k4 => exact NT); (case k5 => k_asm); (case k6 => k_is); (case k7 => k_is); (case k8 => ktr_room); (case k9 => exact BindsTo.of_eq rfl); (case c5 => decide); (case kB => exact locs rfl); (case c2 => exact rfl); (case c3 => exact rfl); (case c4 => exact rfl); k_whole; intro g' L' h' FG' F' N' B' X' T' kG kL; (try dsimp only); (try k_lift B'); (try k_fold))
  repeat' (first | (with_reducible (k_here; (with_reducible show wpAny _ _ (call (Value.builtin "int.to_bytes") _) _ _ _); (with_reducible refine tb_bloom (by with_reducible assumption) (by with_reducible assumption) (by with_reducible assumption) ?_); intro _ _ _ hboZ)) | (with_reducible (k_here; (with_reducible show wpAny _ _ (binaryOp Operator.FloorDiv (Value.int _ _) (Value.int _ _)) _ _ _); (with_reducible refine fd8 ?_))) | (with_reducible (k_here; (with_reducible show wpAny _ _ (binaryOp Operator.LShift (Value.int _ _) (Value.int _ _)) _ _ _); first | (with_reducible refine shlBits (by with_reducible assumption) (by with_reducible assumption) ?_) | (with_reducible refine shlPow (by with_reducible assumption) (by with_reducible assumption) ?_))) | (k_unfold; (try dsimp only)) | (k_end; kc_close) | walk1 | (dsimp only; walk1) | (leave1; (try dsimp only)) | fail "no step")
  rename Fr h₀ L _ _ => kF
  exact hret _ _ _ _ (by assumption) kF (news_back (by assumption) kG N (by simp))
end
section
set_option maxRecDepth 100000 in
set_option maxHeartbeats 8000000 in
theorem refused_ok {w : World} {mean : ExcName → Option Value} {mg mb : Str → Option Value} {dp un : Nat} {gd : Option (List Code)} {cn : Str} {cs : Scope} {a : Addr} {ccd : Value} {cl : List (Str × Addr)} {A₀ : Around} {base h₀ : Heap} {L : Addr} {m : Str → Option Value} {s : Shared} {Q E : Value → Shared → Prop} {tB tm : Tok} {bl bi : Int}
    (B : Below A₀ base [] h₀) (F : Fr h₀ L s.heap m) (X : (hd.heap_39 w.params).In h₀) (XB : (hd.heap_39 w.params).In base) (T : Top hd.view_39 (looseW hd.view_39 [Str.ofString "WORD", Str.ofString "LEAST_ADDRESS"]) mean mg mb h₀) (TB : Top hd.view_39 (looseW hd.view_39 [Str.ofString "WORD", Str.ofString "LEAST_ADDRESS"]) mean mg mb base) (hk : cs.kind = .function)
    (hbad : bi < 3 ∨ 16 < bi ∨ (3 ≤ bi ∧ bi ≤ 16 ∧ (bl < 0 ∨ 1 * 2 ^ Int.toNat (1 * 2 ^ Int.toNat bi) ≤ bl)))
    (hd : dp + 20 < recursionLimit) (hu : un + 300 < cLine)
    (hret : ∀ h' tk', Fr h₀ L h' m → Q (.bool true) { s with heap := h', toks := tk' }) :
    wpAny (model PySem.Challenge.rw_pq0387_01.row.prog w) (ktrTop dp un gd cn cs L a ccd cl []) (call (.ref 178) [.int bl tB, .int bi tm]) Q E s := by
  w_top off
  revert X; k_fill; intro X
  refine wpAny_call ?_
  k_dflt (refine' code_defT ?k1 ?k2 ?k3 ?k5 ?kA ?kF ?kK ?k6 ?k7 ?k8 ?k9 ?kB ?_ ?c2 ?c3 ?c4 ?c5; (case kA => exact rfl); (case kF => exact rfl); (case kK => assumption); (case k1 => k_asm); (case k2 => k_asm); (case k3 => k_asm); (case k5 => k_asm); (case k6 => k_is); (case k7 => k_is); (case k8 => ktr_room); (case k9 => exact BindsTo.of_eq rfl); (case c5 => decide); (case kB => exact locs rfl); (case c2 => exact rfl); (case c3 => exact rfl); (case c4 => exact rfl); k_whole; intro g' L' h' FG' F' N' B' X' T' D'; (try dsimp only); (try k_lift B'); (try k_fold))
  repeat' (first | (with_reducible (k_here; (with_reducible show wpAny _ _ (binaryOp Operator.LShift (Value.int _ _) (Value.int _ _)) _ _ _); first | (with_reducible refine shlBits (by omega) (by omega) ?_) | (with_reducible refine shlPow (by omega) (by omega) ?_))) | (with_reducible (k_here; (with_reducible show wpAny _ _ (leaving _ _) _ _ _); ((refine' leave_fault ?K9ZZ ?F9ZZ ?N9ZZ ?m9ZZ ?t9ZZ ?e9ZZ ?_; (case K9ZZ => assumption); (case F9ZZ => assumption); (case N9ZZ => k_asm); (case m9ZZ => exact List.Mem.head _); (case t9ZZ => exact List.Mem.tail _ (List.Mem.head _)); (case e9ZZ => assumption); intro h'Z R'Z U'Z; (try dsimp only at R'Z U'Z ⊢))))) | (k_here; (with_reducible show wpAny _ _ (leaving _ _) _ _ _); ((refine' leave_fault ?K9ZZ ?F9ZZ ?N9ZZ ?m9ZZ ?t9ZZ ?e9ZZ ?_; (case K9ZZ => assumption); (case F9ZZ => assumption); (case N9ZZ => k_asm); (case m9ZZ => exact List.Mem.head _); (case t9ZZ => exact List.Mem.tail _ (List.Mem.head _)); (case e9ZZ => assumption); intro h'Z R'Z U'Z; (try dsimp only at R'Z U'Z ⊢)))) | (with_reducible (k_here; (with_reducible show FaultAt ..); ((refine' FaultAt.intro ?N9ZZ ?m9ZZ ?X9ZZ ?_; (case N9ZZ => k_asm); (case m9ZZ => exact List.Mem.head _); (case X9ZZ => exact FaultIn.keeps (fault_in (by assumption)) (Fr.keep (by assumption))))))) | (k_here; (with_reducible show FaultAt ..); ((refine' FaultAt.intro ?N9ZZ ?m9ZZ ?X9ZZ ?_; (case N9ZZ => k_asm); (case m9ZZ => exact List.Mem.head _); (case X9ZZ => exact FaultIn.keeps (fault_in (by assumption)) (Fr.keep (by assumption)))))) | (with_reducible (k_here; (with_reducible show wpAny _ _ (setAttr (Value.ref _) _ _) _ _ _); ((refine' set_word ?F9ZZ ?X9ZZ ?N9ZZ ?o9ZZ ?_; (case N9ZZ => k_asm); (case F9ZZ => k_asm); (case X9ZZ => exact FaultIn.keeps (fault_in (by assumption)) (Fr.keep (by assumption))); (case o9ZZ => intro pZ hpZ; simp only [List.mem_cons, List.not_mem_nil, or_false] at hpZ; subst hpZ; assumption); intro d'Z h'Z tk'Z F'Z N'Z)))) | (k_here; (with_reducible show wpAny _ _ (setAttr (Value.ref _) _ _) _ _ _); ((refine' set_word ?F9ZZ ?X9ZZ ?N9ZZ ?o9ZZ ?_; (case N9ZZ => k_asm); (case F9ZZ => k_asm); (case X9ZZ => exact FaultIn.keeps (fault_in (by assumption)) (Fr.keep (by assumption))); (case o9ZZ => intro pZ hpZ; simp only [List.mem_cons, List.not_mem_nil, or_false] at hpZ; subst hpZ; assumption); intro d'Z h'Z tk'Z F'Z N'Z))) | (with_reducible (k_here; (with_reducible show wpAny _ _ (call (Value.builtin "Exception.__init__") _) _ _ _); ((refine' exc_init ?F9ZZ ?X9ZZ ?N9ZZ ?o9ZZ ?_; (case N9ZZ => k_asm); (case F9ZZ => k_asm); (case X9ZZ => exact FaultIn.keeps (fault_in (by assumption)) (Fr.keep (by assumption))); (case o9ZZ => exact List.forall_mem_nil _); intro t'Z h'Z F'Z N'Z hte'Z)))) | (k_here; (with_reducible show wpAny _ _ (call (Value.builtin "Exception.__init__") _) _ _ _); ((refine' exc_init ?F9ZZ ?X9ZZ ?N9ZZ ?o9ZZ ?_; (case N9ZZ => k_asm); (case F9ZZ => k_asm); (case X9ZZ => exact FaultIn.keeps (fault_in (by assumption)) (Fr.keep (by assumption))); (case o9ZZ => exact List.forall_mem_nil _); intro t'Z h'Z F'Z N'Z hte'Z))) | (with_reducible (k_here; (with_reducible show wpAny _ _ (getMethod (Value.type "Exception") _ _) _ _ _); ((refine' getm_exc ?F9ZZ ?X9ZZ ?e9ZZ ?_; (case F9ZZ => k_asm); (case X9ZZ => k_asm); (case e9ZZ => k_is))))) | (k_here; (with_reducible show wpAny _ _ (getMethod (Value.type "Exception") _ _) _ _ _); ((refine' getm_exc ?F9ZZ ?X9ZZ ?e9ZZ ?_; (case F9ZZ => k_asm); (case X9ZZ => k_asm); (case e9ZZ => k_is)))) | (with_reducible (k_here; (with_reducible show wpAny _ _ (call (Value.ref 31) _) _ _ _); (refine' call_fault ?F9ZZ ?N9ZZ ?X9ZZ ?z9ZZ ?_; (case F9ZZ => k_asm); (case N9ZZ => k_asm); (case X9ZZ => exact FaultIn.keeps (fault_in (by assumption)) (Fr.keep (by assumption))); (case z9ZZ => size_fits); intro eZ tZ h'Z F'Z N'Z hoffZ))) | (k_here; (with_reducible show wpAny _ _ (call (Value.ref 31) _) _ _ _); (refine' call_fault ?F9ZZ ?N9ZZ ?X9ZZ ?z9ZZ ?_; (case F9ZZ => k_asm); (case N9ZZ => k_asm); (case X9ZZ => exact FaultIn.keeps (fault_in (by assumption)) (Fr.keep (by assumption))); (case z9ZZ => size_fits); intro eZ tZ h'Z F'Z N'Z hoffZ)) | (with_reducible (k_here; (with_reducible show wpAny _ _ (exec (Stmt.Raise _ _ _) _) _ _ _); (refine' raise_fault ?hh9ZZ ?_); (case hh9ZZ => with_unfolding_all rfl))) | (k_here; (with_reducible show wpAny _ _ (exec (Stmt.Raise _ _ _) _) _ _ _); (refine' raise_fault ?hh9ZZ ?_); (case hh9ZZ => with_unfolding_all rfl)) | (k_unfold; (try dsimp only)) | (k_end; kc_close) | walk1 | (dsimp only; walk1) | (leave1; (try dsimp only)) | fail "no step")
  all_goals exact hret _ _ (by assumption)
end
section
open PySem.Calls
/-- a log of the law's: its object, its dict, its topics' list, its address, its topics -/
structure RowD where
  a : Addr
  d : Addr
  t : Addr
  addr : Int
  tops : List Int
abbrev rowDict (w : World) (r : RowD) (k1 k2 k3 ta : Tok) (dv : Value) (nd : Nat) : Obj :=
  dictOf [⟨PyData.keyHash w.params (Str.ofString "address"), .str (Str.ofString "address") k1, .int r.addr ta⟩, ⟨PyData.keyHash w.params (Str.ofString "topics"), .str (Str.ofString "topics") k2, .ref r.t⟩, ⟨PyData.keyHash w.params (Str.ofString "data"), .str (Str.ofString "data") k3, dv⟩] nd
structure RowAt (w : World) (h : Heap) (r : RowD) : Prop where
  obj : h.get? r.a = some (instObj 103 r.d)
  dic : ∃ k1 k2 k3 ta dv nd, h.get? r.d = some (rowDict w r k1 k2 k3 ta dv nd)
  lst : ∃ vs nt, h.get? r.t = some (listOf vs.toArray nt) ∧ IntsAre vs r.tops
theorem RowAt.keeps {w : World} {h h' : Heap} {r : RowD} (x : RowAt w h r) (k : ∀ b o, h.get? b = some o → h'.get? b = some o) : RowAt w h' r := by
  obtain ⟨k1, k2, k3, ta, dv, nd, h1⟩ := x.dic
  obtain ⟨vs, nt, h2, h3⟩ := x.lst
  exact ⟨k _ _ x.obj, ⟨k1, k2, k3, ta, dv, nd, k _ _ h1⟩, ⟨vs, nt, k _ _ h2, h3⟩⟩
def rowKeys (r : RowD) : List (List Int) := octs 20 r.addr :: r.tops.map (octs 32)
def askAll (rows : List RowD) : List (List Int) := rows.flatMap rowKeys
def numIn (c : List (Int × Int)) (bs : List Int) : Int := kdfLook c (keyOf bs) 0
def spotsOf (c : List (Int × Int)) (bits : Int) (bs : List Int) : List Nat := spots (digOct (numIn c bs)) bits
def bloomIn (c : List (Int × Int)) (bits : Int) (l : List (List Int)) (B : Nat) : Nat := l.foldl (fun B bs => orAll B (spotsOf c bits bs)) B
def AllKnown (c : List (Int × Int)) (l : List (List Int)) : Prop := ∀ bs ∈ l, kdfHas c (keyOf bs) = true
theorem AllKnown.more {c c' : List (Int × Int)} {l : List (List Int)} (h : AllKnown c l) (f : Further c c') : AllKnown c' l := fun bs hb => (f.2.2 _ _ ⟨h bs hb, rfl⟩).1
theorem num_more {c c' : List (Int × Int)} {bs : List Int} (h : kdfHas c (keyOf bs) = true) (f : Further c c') : numIn c' bs = numIn c bs := (f.2.2 _ _ ⟨h, rfl⟩).2
theorem spots_more {c c' : List (Int × Int)} {bs : List Int} {bits : Int} (h : kdfHas c (keyOf bs) = true) (f : Further c c') : spotsOf c' bits bs = spotsOf c bits bs := by
  unfold spotsOf
  rw [num_more h f]
theorem bloom_more {c c' : List (Int × Int)} {bits : Int} (f : Further c c') : ∀ (l : List (List Int)) (B : Nat), AllKnown c l → bloomIn c' bits l B = bloomIn c bits l B
  | [], B, _ => rfl
  | bs :: l, B, h => by
    show bloomIn c' bits l (orAll B (spotsOf c' bits bs)) = bloomIn c bits l (orAll B (spotsOf c bits bs))
    rw [spots_more (h bs (.head _)) f, bloom_more f l _ fun b hb => h b (.tail _ hb)]
theorem bloom_app {c : List (Int × Int)} {bits : Int} (l l' : List (List Int)) (B : Nat) : bloomIn c bits (l ++ l') B = bloomIn c bits l' (bloomIn c bits l B) := List.foldl_append
/-- one asking more -/
theorem bloom_step {c c' : List (Int × Int)} {bits : Int} {l : List (List Int)} {bs : List Int} {n : Int} {B B₀ : Nat} (f : Further c c') (hk : AllKnown c l) (hB : B = bloomIn c bits l B₀) (h : Knows c' (keyOf bs) n) :
    AllKnown c' (l ++ [bs]) ∧ orAll B (spots (digOct n) bits) = bloomIn c' bits (l ++ [bs]) B₀ := by
  refine ⟨fun b hb => ?_, ?_⟩
  · rcases List.mem_append.mp hb with hb | hb
    · exact hk.more f b hb
    · rw [List.mem_singleton.mp hb]; exact h.1
  · rw [bloom_app, bloom_more f l _ hk, ← hB]
    show _ = orAll B (spotsOf c' bits bs)
    unfold spotsOf numIn
    rw [h.2]
/-- what holds between two askings of a bloom's making -/
structure Made (w : World) (c : List (Int × Int)) (bits : Int) (asked : List (List Int)) (k B : Nat) (oi : Obj) (ci : List (Int × Int)) : Prop where
  fu : Further c ci
  len : ci.length ≤ c.length + k
  bear : Bears w oi ci
  kn : AllKnown ci asked
  val : B = bloomIn ci bits asked 0
theorem Made.start {w : World} {c : List (Int × Int)} {bits : Int} {o : Obj} (hT : Tidy c) (hD : Bears w o c) : Made w c bits [] 0 0 o c := ⟨Further.refl hT, Nat.le_refl _, hD, fun _ h => (nomatch h), rfl⟩
theorem Made.step {w : World} {c ci c' : List (Int × Int)} {bits n : Int} {asked : List (List Int)} {bs : List Int} {k B : Nat} {oi o' : Obj} (M : Made w c bits asked k B oi ci) (hK : Knows c' (keyOf bs) n) (f : Further ci c') (hl : c'.length ≤ ci.length + 1) (hD : Bears w o' c') :
    Made w c bits (asked ++ [bs]) (k + 1) (orAll B (spots (digOct n) bits)) o' c' := by
  obtain ⟨h1, h2⟩ := bloom_step f M.kn M.val hK
  exact ⟨M.fu.trans f, by have := M.len; omega, hD, h1, h2⟩
theorem Made.more {w : World} {c ci : List (Int × Int)} {bits : Int} {asked : List (List Int)} {k k' B : Nat} {oi : Obj} (M : Made w c bits asked k B oi ci) (h : k ≤ k') : Made w c bits asked k' B oi ci := ⟨M.fu, by have := M.len; omega, M.bear, M.kn, M.val⟩
theorem Made.of {w : World} {c ci : List (Int × Int)} {bits : Int} {asked asked' : List (List Int)} {k B : Nat} {oi : Obj} (M : Made w c bits asked k B oi ci) (h : asked = asked') : Made w c bits asked' k B oi ci := h ▸ M
theorem octs_drop (n : Int) : (octs 32 n).drop 12 = octs 20 n := by
  unfold octs
  rw [← List.map_drop]
  refine List.ext_getElem (by simp) fun i h1 h2 => ?_
  have : i < 20 := by simpa using h2
  simp only [List.getElem_map, List.getElem_drop, List.getElem_range]
  have e : 32 - 1 - (12 + i) = 20 - 1 - i := by omega
  rw [e]
end
section
theorem get_address {w : World} {K : Frag} {prog : Program} {A : Around} {E : Value → Shared → Prop} {s : Shared} {h₀ : Heap} {L : Addr} {m : Str → Option Value} {expr : Bool} {r : RowD} {Q : Value → Shared → Prop} (F : Fr h₀ L s.heap m) (X₀ : K.In h₀) (R : RowAt w s.heap r)
    (hg : plainGet K 103 (Str.ofString "address") = true) (hh : hasDictIn K 103 = true) (ha : findIn K (.ref 103) (Str.ofString "address") = some none) (h : ∀ t, Q (.int r.addr t) { s with toks := s.toks + 1 }) :
    wpAny (model prog w) A (getAttr (.ref r.a) (Str.ofString "address") expr) Q E s := by
  obtain ⟨k1, k2, k3, ta, dv, nd, hd⟩ := R.dic
  exact get_own (C := 103) F X₀ ⟨R.obj, rfl, rfl, hd⟩ hg hh ha rfl (by with_unfolding_all rfl) rfl (h ta)
theorem get_topics {w : World} {K : Frag} {prog : Program} {A : Around} {E : Value → Shared → Prop} {s : Shared} {h₀ : Heap} {L : Addr} {m : Str → Option Value} {expr : Bool} {r : RowD} {Q : Value → Shared → Prop} (F : Fr h₀ L s.heap m) (X₀ : K.In h₀) (R : RowAt w s.heap r)
    (hg : plainGet K 103 (Str.ofString "topics") = true) (hh : hasDictIn K 103 = true) (ha : findIn K (.ref 103) (Str.ofString "topics") = some none) (h : Q (.ref r.t) { s with toks := s.toks + 1 }) :
    wpAny (model prog w) A (getAttr (.ref r.a) (Str.ofString "topics") expr) Q E s := by
  obtain ⟨k1, k2, k3, ta, dv, nd, hd⟩ := R.dic
  exact get_own (C := 103) F X₀ ⟨R.obj, rfl, rfl, hd⟩ hg hh ha rfl (by with_unfolding_all rfl) rfl h
section
variable {prog : Program} {w : World} {A : Around} {E : Value → Shared → Prop} {s : Shared} {value slice : PySem.Expr} {b : Array UInt8} {t : Tok} {h₀ : Heap} {L : Addr} {m : PySem.Str → Option Value} {news : List (Addr × Obj)} {u : Tok} {Q : Value → Shared → Prop} {n : Int}
theorem slice12 (hF : Fr h₀ L s.heap m) (hN : News h₀ L s.heap news) (hb : KBw.bInts b = octs 32 n)
    (h : ∀ (r : Array UInt8) h' t' k, KBw.bInts r = octs 20 n → Fr h₀ L h' m → News h₀ L h' news → Q (.bytes r t') { s with heap := h', toks := k })
    (hs : subscripted slice false (.bytes b t) (.ref s.heap.objs.size) = operate [.ref s.heap.objs.size, .bytes b t] (getItem (.bytes b t) (.ref s.heap.objs.size)) := by with_unfolding_all rfl)
    (ht : ∀ r, letTemporaryGo value (.bytes b t) r = pure () := by intro _; with_unfolding_all rfl) :
    wpAny (model prog w) A (subscriptTail value slice (.bytes b t) (.ref s.heap.objs.size)) Q E { s with heap := s.heap.push { cls := .type "slice", data := .fields #[.int 12 u, .none, .none] } } :=
  KBc.slice_K (ks := octs 32 n) hF hN hb (.int _ _) .none (by rw [octs_length]; decide) (fun h' t' k F' N' e => h _ h' t' k (e.trans (by
    rw [octs_length]
    have e1 : (some (12 : Int)).elim 0 (clipAt 32) = 12 := by decide
    have e2 : (none : Option Int).elim 32 (clipAt 32) = 32 := rfl
    rw [e1, e2, octs_drop]
    exact List.take_of_length_le (by rw [octs_length]; decide))) F' N') hs ht
end
/-- the frame of bloom_of -/
abbrev bfr (B : Nat) (tB : Tok) (ql qt : Option Value) (lg x : Addr) (bits : Int) (tm : Tok) : Str → Option Value := fun z =>
  if z = Str.ofString "bloom" then some (.int (B : Int) tB) else if z = Str.ofString "log" then ql else if z = Str.ofString "topic" then qt else if z = Str.ofString "logs" then some (.ref lg) else if z = Str.ofString "digest" then some (.ref x) else if z = Str.ofString "bits" then some (.int bits tm) else none
theorem bfr_ext {m : Str → Option Value} {B : Nat} {tB : Tok} {ql qt : Option Value} {lg x : Addr} {bits : Int} {tm : Tok} (h1 : m (Str.ofString "bloom") = some (.int (B : Int) tB)) (h2 : m (Str.ofString "log") = ql) (h3 : m (Str.ofString "topic") = qt)
    (h4 : m (Str.ofString "logs") = some (.ref lg)) (h5 : m (Str.ofString "digest") = some (.ref x)) (h6 : m (Str.ofString "bits") = some (.int bits tm))
    (h7 : ∀ z, z ≠ Str.ofString "bloom" → z ≠ Str.ofString "log" → z ≠ Str.ofString "topic" → z ≠ Str.ofString "logs" → z ≠ Str.ofString "digest" → z ≠ Str.ofString "bits" → m z = none) : m = bfr B tB ql qt lg x bits tm := by
  funext z
  unfold bfr
  by_cases z1 : z = Str.ofString "bloom"
  · rw [if_pos z1, z1]; exact h1
  by_cases z2 : z = Str.ofString "log"
  · rw [if_neg z1, if_pos z2, z2]; exact h2
  by_cases z3 : z = Str.ofString "topic"
  · rw [if_neg z1, if_neg z2, if_pos z3, z3]; exact h3
  by_cases z4 : z = Str.ofString "logs"
  · rw [if_neg z1, if_neg z2, if_neg z3, if_pos z4, z4]; exact h4
  by_cases z5 : z = Str.ofString "digest"
  · rw [if_neg z1, if_neg z2, if_neg z3, if_neg z4, if_pos z5, z5]; exact h5
  by_cases z6 : z = Str.ofString "bits"
  · rw [if_neg z1, if_neg z2, if_neg z3, if_neg z4, if_neg z5, if_pos z6, z6]; exact h6
  rw [if_neg z1, if_neg z2, if_neg z3, if_neg z4, if_neg z5, if_neg z6]
  exact h7 z z1 z2 z3 z4 z5 z6
set_option maxRecDepth 100000 in
set_option maxHeartbeats 8000000 in
theorem bloom_of_ok {w : World} {mean : ExcName → Option Value} {mg mb : Str → Option Value} {dp un : Nat} {gd : Option (List Code)} {cn : Str} {cs : Scope} {a : Addr} {ccd : Value} {cl : List (Str × Addr)} {outer : List Env} {A₀ : Around} {base h₀ : Heap} {L : Addr} {m : Str → Option Value} {s : Shared} {Q E : Value → Shared → Prop} {x dx kd : Addr} {tkn : Tok} {nkd : Nat} {o : Obj} {c : List (Int × Int)} {news : List (Addr × Obj)} {news' : Obj → List (Addr × Obj)} {lg : Addr} {rows : List RowD} {nl : Nat} {tm : Tok} {bits : Int}
    (B : Below A₀ base outer h₀) (F : Fr h₀ L s.heap m) (X : (hd.heap_39 w.params).In h₀) (N : News h₀ L s.heap news) (T : Top hd.view_39 (looseW hd.view_39 [Str.ofString "WORD", Str.ofString "LEAST_ADDRESS"]) mean mg mb h₀) (hk : cs.kind = .function) (m1 : (x, instObj 138 dx) ∈ news) (m2 : (dx, dictOf [⟨PyData.keyHash w.params (Str.ofString "known"), .str (Str.ofString "known") tkn, .ref kd⟩] nkd) ∈ news) (m3 : (kd, o) ∈ news) (U : ∀ o', Upd kd o o' news (news' o')) (n1 : x ≠ dx) (n2 : x ≠ kd) (n3 : dx ≠ kd) (hs : (kd == sysModules) = false) (hD : Bears w o c) (hT : Tidy c) (hlg : s.heap.get? lg = some (listOf (rows.map fun r => Value.ref r.a).toArray nl)) (hlo : lg ≠ x ∧ lg ≠ dx ∧ lg ≠ kd ∧ lg ≠ L)
    (hrow : ∀ r ∈ rows, RowAt w s.heap r ∧ (r.a ≠ x ∧ r.a ≠ dx ∧ r.a ≠ kd) ∧ (r.d ≠ x ∧ r.d ≠ dx ∧ r.d ≠ kd) ∧ (r.t ≠ x ∧ r.t ≠ dx ∧ r.t ≠ kd)) (hr4 : rows.length ≤ 4)
    (hin : ∀ r ∈ rows, (0 ≤ r.addr ∧ r.addr < 256 ^ 20) ∧ (∀ v ∈ r.tops, 0 ≤ v ∧ v < 256 ^ 32) ∧ r.tops.length ≤ 4)
    (hc : c.length ≤ 900) (hb0 : 3 ≤ bits) (hb1 : bits ≤ 11)
    (hd : dp + 14 < recursionLimit) (hu : un + 240 < cLine)
    (hret : ∀ t o' c' h' tk', Further c c' → c'.length ≤ c.length + 20 → AllKnown c' (askAll rows) → Bears w o' c' → Fr h₀ L h' m → News h₀ L h' (news' o') → Q (.int (bloomIn c' bits (askAll rows) 0 : Nat) t) { s with heap := h', toks := tk' }) :
    wpAny (model PySem.Challenge.rw_pq0387_01.row.prog w) (ktrTop dp un gd cn cs L a ccd cl outer) (call (.ref 74) [.ref lg, .ref x, .int bits tm]) Q E s := by
  w_top off
  have NT : News h₀ L s.heap [(x, instObj 138 dx), (dx, dictOf [⟨PyData.keyHash w.params (Str.ofString "known"), .str (Str.ofString "known") tkn, .ref kd⟩] nkd), (kd, o)] := by
    intro p hp
    simp only [List.mem_cons, List.not_mem_nil, or_false] at hp
    rcases hp with rfl | rfl | rfl
    · exact N _ m1
    · exact N _ m2
    · exact N _ m3
  revert X; k_fill; intro X
  refine wpAny_call ?_
  k_dflt (refine' code_defP ?k1 ?k2 ?k3 ?k4 ?k5 ?kA ?kF ?kK ?k6 ?k7 ?k8 ?k9 ?kB ?_ ?c2 ?c3 ?c4 ?c5; (case kA => exact rfl); (case kF => exact rfl); (case kK => assumption); (case k1 => k_asm); (case k2 => k_asm); (case k3 => k_asm); (case k4 => exact NT); (case k5 => k_asm); (case k6 => k_is); (case k7 => k_is); (case k8 => ktr_room); (case k9 => exact BindsTo.of_eq rfl); (case c5 => decide); (case kB => exact locs rfl); (case c2 => exact rfl); (case c3 => exact rfl); (case c4 => exact rfl); k_whole; intro g' L' h' FG' F' N' B' X' T' kG kL; (try dsimp only); (try k_lift B'); (try k_fold))
  repeat' (first | (with_reducible (k_here; (with_reducible show wpAny _ _ (call (Value.ref 67) _) _ _ _); k_dflt (refine' bloom_with_ok ?BZZ ?FZZ ?XZZ ?NZZ ?TZZ ?hkZZ ?m1ZZ ?m2ZZ ?m3ZZ ?UZZ ?n1ZZ ?n2ZZ ?n3ZZ ?hsZZ ?hDZZ ?hTZZ ?hbZZ ?hblZZ ?hcZZ ?hb0ZZ ?hb1ZZ ?hdZZ ?huZZ ?_; (case BZZ => k_asm); (case FZZ => k_asm); (case XZZ => k_asm); (case NZZ => k_asm); (case TZZ => k_asm); (case hkZZ => first | exact rfl | assumption); (case m1ZZ => k_mem); (case m2ZZ => k_mem); (case m3ZZ => k_mem); (case UZZ => intro o'Z; k_upd); (case n1ZZ => assumption); (case n2ZZ => assumption); (case n3ZZ => assumption); (case hsZZ => assumption); (case hDZZ => assumption); (case hTZZ => assumption); (case hbZZ => assumption); (case hblZZ => (rw [octs_length]; decide)); (case hcZZ => assumption); (case hb0ZZ => assumption); (case hb1ZZ => assumption); (case hdZZ => ktr_room); (case huZZ => ktr_units)); intro nZ tZ o'Z c'Z h'Z tk'Z hKnZ hFuZ hclZ hD'Z F'Z N'Z; (try dsimp only))) | (k_here; (with_reducible show wpAny _ _ (call (Value.ref 67) _) _ _ _); k_dflt (refine' bloom_with_ok ?BZZ ?FZZ ?XZZ ?NZZ ?TZZ ?hkZZ ?m1ZZ ?m2ZZ ?m3ZZ ?UZZ ?n1ZZ ?n2ZZ ?n3ZZ ?hsZZ ?hDZZ ?hTZZ ?hbZZ ?hblZZ ?hcZZ ?hb0ZZ ?hb1ZZ ?hdZZ ?huZZ ?_; (case BZZ => k_asm); (case FZZ => k_asm); (case XZZ => k_asm); (case NZZ => k_asm); (case TZZ => k_asm); (case hkZZ => first | exact rfl | assumption); (case m1ZZ => k_mem); (case m2ZZ => k_mem); (case m3ZZ => k_mem); (case UZZ => intro o'Z; k_upd); (case n1ZZ => assumption); (case n2ZZ => assumption); (case n3ZZ => assumption); (case hsZZ => assumption); (case hDZZ => assumption); (case hTZZ => assumption); (case hbZZ => assumption); (case hblZZ => (rw [octs_length]; decide)); (case hcZZ => assumption); (case hb0ZZ => assumption); (case hb1ZZ => assumption); (case hdZZ => ktr_room); (case huZZ => ktr_units)); intro nZ tZ o'Z c'Z h'Z tk'Z hKnZ hFuZ hclZ hD'Z F'Z N'Z; (try dsimp only)) | (with_reducible (k_here; (with_reducible show wpAny _ _ (call (Value.ref 48) _) _ _ _); k_dflt (refine' word_octets_ok ?BZZ ?FZZ ?XZZ ?NZZ ?TZZ ?hkZZ ?hn0ZZ ?hn1ZZ ?hdZZ ?huZZ ?_; (case BZZ => k_asm); (case FZZ => k_asm); (case XZZ => k_asm); (case NZZ => k_asm); (case TZZ => k_asm); (case hkZZ => first | exact rfl | assumption); (case hn0ZZ => assumption); (case hn1ZZ => assumption); (case hdZZ => ktr_room); (case huZZ => ktr_units)); intro rZ tZ h'Z tk'Z hrZ F'Z N'Z; (try dsimp only))) | (k_here; (with_reducible show wpAny _ _ (call (Value.ref 48) _) _ _ _); k_dflt (refine' word_octets_ok ?BZZ ?FZZ ?XZZ ?NZZ ?TZZ ?hkZZ ?hn0ZZ ?hn1ZZ ?hdZZ ?huZZ ?_; (case BZZ => k_asm); (case FZZ => k_asm); (case XZZ => k_asm); (case NZZ => k_asm); (case TZZ => k_asm); (case hkZZ => first | exact rfl | assumption); (case hn0ZZ => assumption); (case hn1ZZ => assumption); (case hdZZ => ktr_room); (case huZZ => ktr_units)); intro rZ tZ h'Z tk'Z hrZ F'Z N'Z; (try dsimp only)) | (with_reducible (k_here; (with_reducible show wpAny _ _ (subscriptTail _ (Expr.Slice _ _ none _) (Value.bytes _ _) (Value.ref _)) _ _ _); (with_reducible rename Fr _ _ _ _ => F'Z); (with_reducible rename News _ _ _ _ => N'Z); (refine slice12 (s := ⟨_, _, _, _, _⟩) F'Z N'Z (by with_reducible assumption) ?_); intro r9Z h'Z t9Z k9Z hr9Z F'Z N'Z)) | (k_here; (with_reducible show wpAny _ _ (subscriptTail _ (Expr.Slice _ _ none _) (Value.bytes _ _) (Value.ref _)) _ _ _); (with_reducible rename Fr _ _ _ _ => F'Z); (with_reducible rename News _ _ _ _ => N'Z); (refine slice12 (s := ⟨_, _, _, _, _⟩) F'Z N'Z (by with_reducible assumption) ?_); intro r9Z h'Z t9Z k9Z hr9Z F'Z N'Z) | (with_reducible (k_here; (with_reducible show wpAny _ _ (getAttr (Value.ref _) (Str.ofString "topics") _) _ _ _); (k_dflt (refine' get_topics ?F9ZZ ?X9ZZ ?R9ZZ ?g9ZZ ?h9ZZ ?a9ZZ ?_; (case F9ZZ => k_asm); (case X9ZZ => k_asm); (case R9ZZ => exact RowAt.keeps (by assumption) (Fr.keep (by assumption))); (case g9ZZ => k_is); (case h9ZZ => k_is); (case a9ZZ => k_is))))) | (k_here; (with_reducible show wpAny _ _ (getAttr (Value.ref _) (Str.ofString "topics") _) _ _ _); (k_dflt (refine' get_topics ?F9ZZ ?X9ZZ ?R9ZZ ?g9ZZ ?h9ZZ ?a9ZZ ?_; (case F9ZZ => k_asm); (case X9ZZ => k_asm); (case R9ZZ => exact RowAt.keeps (by assumption) (Fr.keep (by assumption))); (case g9ZZ => k_is); (case h9ZZ => k_is); (case a9ZZ => k_is)))) | (with_reducible (k_here; (with_reducible show wpAny _ _ (getAttr (Value.ref _) (Str.ofString "address") _) _ _ _); (k_dflt (refine' get_address ?F9ZZ ?X9ZZ ?R9ZZ ?g9ZZ ?h9ZZ ?a9ZZ ?_; (case F9ZZ => k_asm); (case X9ZZ => k_asm); (case R9ZZ => exact RowAt.keeps (by assumption) (Fr.keep (by assumption))); (case g9ZZ => k_is); (case h9ZZ => k_is); (case a9ZZ => k_is)); intro ta9Z))) | (k_here; (with_reducible show wpAny _ _ (getAttr (Value.ref _) (Str.ofString "address") _) _ _ _); (k_dflt (refine' get_address ?F9ZZ ?X9ZZ ?R9ZZ ?g9ZZ ?h9ZZ ?a9ZZ ?_; (case F9ZZ => k_asm); (case X9ZZ => k_asm); (case R9ZZ => exact RowAt.keeps (by assumption) (Fr.keep (by assumption))); (case g9ZZ => k_is); (case h9ZZ => k_is); (case a9ZZ => k_is)); intro ta9Z)) | (with_reducible (k_here; (with_reducible show wpAny _ _ (exec (Stmt.For (Expr.Name _ _) (Expr.Attribute _ _ _) _ _ _) _) _ _ _); (rename Fr _ _ _ _ => lF'Z); (with_unfolding_all refine' For_invVF lF'Z ?k1ZZ ?k2ZZ ?_; (case k1ZZ => exact rfl); (case k2ZZ => exact rfl); k_whole))) | (k_here; (with_reducible show wpAny _ _ (exec (Stmt.For (Expr.Name _ _) (Expr.Attribute _ _ _) _ _ _) _) _ _ _); (rename Fr _ _ _ _ => lF'Z); (with_unfolding_all refine' For_invVF lF'Z ?k1ZZ ?k2ZZ ?_; (case k1ZZ => exact rfl); (case k2ZZ => exact rfl); k_whole)) | (with_reducible (k_here; (with_reducible show wpAny _ _ (exec (Stmt.For (Expr.Name _ _) (Expr.Name _ _) _ _ _) _) _ _ _); (rename Fr _ _ _ _ => lF'Z); (with_unfolding_all refine' For_invVF lF'Z ?k1ZZ ?k2ZZ ?_; (case k1ZZ => exact rfl); (case k2ZZ => exact rfl); k_whole))) | (k_here; (with_reducible show wpAny _ _ (exec (Stmt.For (Expr.Name _ _) (Expr.Name _ _) _ _ _) _) _ _ _); (rename Fr _ _ _ _ => lF'Z); (with_unfolding_all refine' For_invVF lF'Z ?k1ZZ ?k2ZZ ?_; (case k1ZZ => exact rfl); (case k2ZZ => exact rfl); k_whole)) | (with_reducible (k_here; (with_reducible show wpAny _ _ (pyIter (Value.ref _)) _ _ _); refine halt ?_)) | (k_unfold; (try dsimp only)) | (k_end; kc_close) | walk1 | (dsimp only; walk1) | (leave1; (try dsimp only)) | fail "no step")
  refine (?_ : wpAny _ _ _ _ _ _)
  rename Fr g' L' _ _ => F1
  rename News g' L' _ _ => N1
  have hfew : ∀ b, b ≠ x ∧ b ≠ dx ∧ b ≠ kd → b ∉ List.map (·.1) [(x, instObj 138 dx), (dx, dictOf [⟨PyData.keyHash w.params (Str.ofString "known"), .str (Str.ofString "known") tkn, .ref kd⟩] nkd), (kd, o)] := fun b hb hm => by
    simp only [List.map_cons, List.map_nil, List.mem_cons, List.not_mem_nil, or_false] at hm
    rcases hm with h | h | h
    · exact hb.1 h
    · exact hb.2.1 h
    · exact hb.2.2 h
  have hlgG : g'.get? lg = some (listOf (rows.map fun r => Value.ref r.a).toArray nl) := kG _ _ hlg (hfew lg ⟨hlo.1, hlo.2.1, hlo.2.2.1⟩)
  have hrowG : ∀ r ∈ rows, RowAt w g' r := fun r hr => by
    obtain ⟨h1, h2, h3, h4⟩ := hrow r hr
    obtain ⟨k1, k2, k3, ta, dv, nd, e1⟩ := h1.dic
    obtain ⟨vs, nt, e2, e3⟩ := h1.lst
    exact ⟨kG _ _ h1.obj (hfew _ h2), ⟨k1, k2, k3, ta, dv, nd, kG _ _ e1 (hfew _ h3)⟩, ⟨vs, nt, kG _ _ e2 (hfew _ h4), e3⟩⟩
  refine iterL (lo := default) (vs := rows.map fun r => Value.ref r.a) (fun i m nx => ∃ (B : Nat) (tB : Tok) (oi : Obj) (ci : List (Int × Int)) (ql qt : Option Value), m = bfr B tB ql qt lg x bits tm ∧ nx = [(x, instObj 138 dx), (dx, dictOf [⟨PyData.keyHash w.params (Str.ofString "known"), .str (Str.ofString "known") tkn, .ref kd⟩] nkd), (kd, oi)] ∧ Made w c bits (askAll (rows.take i)) (5 * i) B oi ci)
    (by with_unfolding_all rfl) ⟨_, F1.keep _ _ hlgG, rfl, _, rfl⟩ (.inl (by rw [hlgG]; intro h; cases h)) (Nat.ne_of_gt (kL _ _ hlg)) F1 N1 ?_ ?_ ?_
  · exact ⟨0, _, o, c, none, none, bfr_ext rfl rfl rfl rfl rfl rfl (fun z z1 z2 z3 z4 z5 z6 => by
      with_unfolding_all (show (if z = Str.ofString "bloom" then _ else List.lookup z [(Str.ofString "bits", Value.int bits tm), (Str.ofString "digest", Value.ref x), (Str.ofString "logs", Value.ref lg)]) = _)
      rw [if_neg z1, List.lookup_cons, beq_eq_false_iff_ne.mpr z6, List.lookup_cons, beq_eq_false_iff_ne.mpr z5, List.lookup_cons, beq_eq_false_iff_ne.mpr z4]
      rfl), rfl, Made.start hT hD⟩
  · rintro i v m₁ news₁ h tk I oI hv ⟨B, tB, oi, ci, ql, qt, rfl, rfl, M⟩ hoI F2 N2
    obtain ⟨r, hr, rfl⟩ : ∃ r, rows[i]? = some r ∧ Value.ref r.a = v := by simpa using hv
    have hrm : r ∈ rows := List.mem_of_getElem? hr
    have RA := hrowG r hrm
    obtain ⟨⟨hn0, hn20⟩, htops, htl⟩ := hin r hrm
    have hn1 : r.addr < 256 ^ 32 := Int.lt_trans hn20 (by decide)
    simp only [List.forall_mem_cons, List.not_mem_nil, false_implies, implies_true, and_true] at hoI
    obtain ⟨oI1, oI2, oI3⟩ := hoI
    have oI4 := Ne.symm oI3
    have hTi := M.fu.1
    have hDi := M.bear
    have hcl := M.len
    have hil : i < rows.length := (List.getElem?_eq_some_iff.mp hr).1
    have hci : ci.length ≤ 1000 := by omega
    repeat' (first | (with_reducible (k_here; (with_reducible show wpAny _ _ (call (Value.ref 67) _) _ _ _); k_dflt (refine' bloom_with_ok ?BZZ ?FZZ ?XZZ ?NZZ ?TZZ ?hkZZ ?m1ZZ ?m2ZZ ?m3ZZ ?UZZ ?n1ZZ ?n2ZZ ?n3ZZ ?hsZZ ?hDZZ ?hTZZ ?hbZZ ?hblZZ ?hcZZ ?hb0ZZ ?hb1ZZ ?hdZZ ?huZZ ?_; (case BZZ => k_asm); (case FZZ => k_asm); (case XZZ => k_asm); (case NZZ => k_asm); (case TZZ => k_asm); (case hkZZ => first | exact rfl | assumption); (case m1ZZ => k_mem); (case m2ZZ => k_mem); (case m3ZZ => k_mem); (case UZZ => intro o'Z; k_upd); (case n1ZZ => assumption); (case n2ZZ => assumption); (case n3ZZ => assumption); (case hsZZ => assumption); (case hDZZ => assumption); (case hTZZ => assumption); (case hbZZ => assumption); (case hblZZ => (rw [octs_length]; decide)); (case hcZZ => assumption); (case hb0ZZ => assumption); (case hb1ZZ => assumption); (case hdZZ => ktr_room); (case huZZ => ktr_units)); intro nZ tZ o'Z c'Z h'Z tk'Z hKnZ hFuZ hclZ hD'Z F'Z N'Z; (try dsimp only))) | (k_here; (with_reducible show wpAny _ _ (call (Value.ref 67) _) _ _ _); k_dflt (refine' bloom_with_ok ?BZZ ?FZZ ?XZZ ?NZZ ?TZZ ?hkZZ ?m1ZZ ?m2ZZ ?m3ZZ ?UZZ ?n1ZZ ?n2ZZ ?n3ZZ ?hsZZ ?hDZZ ?hTZZ ?hbZZ ?hblZZ ?hcZZ ?hb0ZZ ?hb1ZZ ?hdZZ ?huZZ ?_; (case BZZ => k_asm); (case FZZ => k_asm); (case XZZ => k_asm); (case NZZ => k_asm); (case TZZ => k_asm); (case hkZZ => first | exact rfl | assumption); (case m1ZZ => k_mem); (case m2ZZ => k_mem); (case m3ZZ => k_mem); (case UZZ => intro o'Z; k_upd); (case n1ZZ => assumption); (case n2ZZ => assumption); (case n3ZZ => assumption); (case hsZZ => assumption); (case hDZZ => assumption); (case hTZZ => assumption); (case hbZZ => assumption); (case hblZZ => (rw [octs_length]; decide)); (case hcZZ => assumption); (case hb0ZZ => assumption); (case hb1ZZ => assumption); (case hdZZ => ktr_room); (case huZZ => ktr_units)); intro nZ tZ o'Z c'Z h'Z tk'Z hKnZ hFuZ hclZ hD'Z F'Z N'Z; (try dsimp only)) | (with_reducible (k_here; (with_reducible show wpAny _ _ (call (Value.ref 48) _) _ _ _); k_dflt (refine' word_octets_ok ?BZZ ?FZZ ?XZZ ?NZZ ?TZZ ?hkZZ ?hn0ZZ ?hn1ZZ ?hdZZ ?huZZ ?_; (case BZZ => k_asm); (case FZZ => k_asm); (case XZZ => k_asm); (case NZZ => k_asm); (case TZZ => k_asm); (case hkZZ => first | exact rfl | assumption); (case hn0ZZ => assumption); (case hn1ZZ => assumption); (case hdZZ => ktr_room); (case huZZ => ktr_units)); intro rZ tZ h'Z tk'Z hrZ F'Z N'Z; (try dsimp only))) | (k_here; (with_reducible show wpAny _ _ (call (Value.ref 48) _) _ _ _); k_dflt (refine' word_octets_ok ?BZZ ?FZZ ?XZZ ?NZZ ?TZZ ?hkZZ ?hn0ZZ ?hn1ZZ ?hdZZ ?huZZ ?_; (case BZZ => k_asm); (case FZZ => k_asm); (case XZZ => k_asm); (case NZZ => k_asm); (case TZZ => k_asm); (case hkZZ => first | exact rfl | assumption); (case hn0ZZ => assumption); (case hn1ZZ => assumption); (case hdZZ => ktr_room); (case huZZ => ktr_units)); intro rZ tZ h'Z tk'Z hrZ F'Z N'Z; (try dsimp only)) | (with_reducible (k_here; (with_reducible show wpAny _ _ (subscriptTail _ (Expr.Slice _ _ none _) (Value.bytes _ _) (Value.ref _)) _ _ _); (with_reducible rename Fr _ _ _ _ => F'Z); (with_reducible rename News _ _ _ _ => N'Z); (refine slice12 (s := ⟨_, _, _, _, _⟩) F'Z N'Z (by with_reducible assumption) ?_); intro r9Z h'Z t9Z k9Z hr9Z F'Z N'Z)) | (k_here; (with_reducible show wpAny _ _ (subscriptTail _ (Expr.Slice _ _ none _) (Value.bytes _ _) (Value.ref _)) _ _ _); (with_reducible rename Fr _ _ _ _ => F'Z); (with_reducible rename News _ _ _ _ => N'Z); (refine slice12 (s := ⟨_, _, _, _, _⟩) F'Z N'Z (by with_reducible assumption) ?_); intro r9Z h'Z t9Z k9Z hr9Z F'Z N'Z) | (with_reducible (k_here; (with_reducible show wpAny _ _ (getAttr (Value.ref _) (Str.ofString "topics") _) _ _ _); (k_dflt (refine' get_topics ?F9ZZ ?X9ZZ ?R9ZZ ?g9ZZ ?h9ZZ ?a9ZZ ?_; (case F9ZZ => k_asm); (case X9ZZ => k_asm); (case R9ZZ => exact RowAt.keeps (by assumption) (Fr.keep (by assumption))); (case g9ZZ => k_is); (case h9ZZ => k_is); (case a9ZZ => k_is))))) | (k_here; (with_reducible show wpAny _ _ (getAttr (Value.ref _) (Str.ofString "topics") _) _ _ _); (k_dflt (refine' get_topics ?F9ZZ ?X9ZZ ?R9ZZ ?g9ZZ ?h9ZZ ?a9ZZ ?_; (case F9ZZ => k_asm); (case X9ZZ => k_asm); (case R9ZZ => exact RowAt.keeps (by assumption) (Fr.keep (by assumption))); (case g9ZZ => k_is); (case h9ZZ => k_is); (case a9ZZ => k_is)))) | (with_reducible (k_here; (with_reducible show wpAny _ _ (getAttr (Value.ref _) (Str.ofString "address") _) _ _ _); (k_dflt (refine' get_address ?F9ZZ ?X9ZZ ?R9ZZ ?g9ZZ ?h9ZZ ?a9ZZ ?_; (case F9ZZ => k_asm); (case X9ZZ => k_asm); (case R9ZZ => exact RowAt.keeps (by assumption) (Fr.keep (by assumption))); (case g9ZZ => k_is); (case h9ZZ => k_is); (case a9ZZ => k_is)); intro ta9Z))) | (k_here; (with_reducible show wpAny _ _ (getAttr (Value.ref _) (Str.ofString "address") _) _ _ _); (k_dflt (refine' get_address ?F9ZZ ?X9ZZ ?R9ZZ ?g9ZZ ?h9ZZ ?a9ZZ ?_; (case F9ZZ => k_asm); (case X9ZZ => k_asm); (case R9ZZ => exact RowAt.keeps (by assumption) (Fr.keep (by assumption))); (case g9ZZ => k_is); (case h9ZZ => k_is); (case a9ZZ => k_is)); intro ta9Z)) | (with_reducible (k_here; (with_reducible show wpAny _ _ (exec (Stmt.For (Expr.Name _ _) (Expr.Attribute _ _ _) _ _ _) _) _ _ _); (rename Fr _ _ _ _ => lF'Z); (with_unfolding_all refine' For_invVF lF'Z ?k1ZZ ?k2ZZ ?_; (case k1ZZ => exact rfl); (case k2ZZ => exact rfl); k_whole))) | (k_here; (with_reducible show wpAny _ _ (exec (Stmt.For (Expr.Name _ _) (Expr.Attribute _ _ _) _ _ _) _) _ _ _); (rename Fr _ _ _ _ => lF'Z); (with_unfolding_all refine' For_invVF lF'Z ?k1ZZ ?k2ZZ ?_; (case k1ZZ => exact rfl); (case k2ZZ => exact rfl); k_whole)) | (with_reducible (k_here; (with_reducible show wpAny _ _ (exec (Stmt.For (Expr.Name _ _) (Expr.Name _ _) _ _ _) _) _ _ _); (rename Fr _ _ _ _ => lF'Z); (with_unfolding_all refine' For_invVF lF'Z ?k1ZZ ?k2ZZ ?_; (case k1ZZ => exact rfl); (case k2ZZ => exact rfl); k_whole))) | (k_here; (with_reducible show wpAny _ _ (exec (Stmt.For (Expr.Name _ _) (Expr.Name _ _) _ _ _) _) _ _ _); (rename Fr _ _ _ _ => lF'Z); (with_unfolding_all refine' For_invVF lF'Z ?k1ZZ ?k2ZZ ?_; (case k1ZZ => exact rfl); (case k2ZZ => exact rfl); k_whole)) | (with_reducible (k_here; (with_reducible show wpAny _ _ (pyIter (Value.ref _)) _ _ _); refine halt ?_)) | (k_unfold; (try dsimp only)) | (k_end; kc_close) | walk1 | (dsimp only; walk1) | (leave1; (try dsimp only)) | fail "no step")
    refine (?_ : wpAny _ _ _ _ _ _)
    rename Fr g' L' _ _ => F3
    rename News g' L' _ _ => N3
    rename Knows _ _ _ => hK3
    rename Further ci _ => hF3
    rename _ ≤ List.length ci + 1 => hl3
    rename Bears w _ _ => hD3
    have M1 := M.step hK3 hF3 hl3 hD3
    obtain ⟨vs, nt, hvt, hiv⟩ := RA.lst
    have htL : L' ≠ r.t := fun q => by
      obtain ⟨vs0, nt0, e0, _⟩ := (hrow r hrm).1.lst
      exact absurd (kL _ _ e0) (by rw [q]; exact Nat.lt_irrefl _)
    refine iterL (lo := default) (vs := vs) (fun j m nx => ∃ (B' : Nat) (tB' : Tok) (oj : Obj) (cj : List (Int × Int)) (qt' : Option Value), m = bfr B' tB' (some (.ref r.a)) qt' lg x bits tm ∧ nx = [(I, oI), (x, instObj 138 dx), (dx, dictOf [⟨PyData.keyHash w.params (Str.ofString "known"), .str (Str.ofString "known") tkn, .ref kd⟩] nkd), (kd, oj)] ∧
      Made w c bits (askAll (rows.take i) ++ (octs 20 r.addr :: (r.tops.take j).map (octs 32))) (5 * i + 1 + j) B' oj cj)
      (by with_unfolding_all rfl) ⟨_, F3.keep _ _ hvt, rfl, _, rfl⟩ (.inl (by rw [hvt]; intro h; cases h)) htL F3 N3 ?_ ?_ ?_
    · exact ⟨_, _, _, _, _, bfr_ext rfl rfl rfl rfl rfl rfl (fun z z1 z2 z3 z4 z5 z6 => by simp only [bfr, z1, z2, z3, z4, z5, z6, if_false]), rfl, M1⟩
    · rintro j v m₁ news₁ h2 tk2 I2 oI2 hv2 ⟨B', tB', oj, cj, qt', rfl, rfl, M2⟩ hoI2 F4 N4
      obtain ⟨tp, tt, rfl, htp⟩ := hiv.at j v hv2
      obtain ⟨hn0, hn1⟩ := htops tp (List.mem_of_getElem? htp)
      have hjl : j < r.tops.length := (List.getElem?_eq_some_iff.mp htp).1
      simp only [List.forall_mem_cons, List.not_mem_nil, false_implies, implies_true, and_true] at hoI2
      obtain ⟨oJ0, oJ1, oJ2, oJ3⟩ := hoI2
      have oJ4 := Ne.symm oJ3
      have hTj := M2.fu.1
      have hDj := M2.bear
      have hclj := M2.len
      have hcj : cj.length ≤ 1000 := by omega
      clear hF3 hl3 hD3 hK3 F3 N3 F2 N2 hDi hTi hci
      repeat' (first | (with_reducible (k_here; (with_reducible show wpAny _ _ (call (Value.ref 67) _) _ _ _); k_dflt (refine' bloom_with_ok ?BZZ ?FZZ ?XZZ ?NZZ ?TZZ ?hkZZ ?m1ZZ ?m2ZZ ?m3ZZ ?UZZ ?n1ZZ ?n2ZZ ?n3ZZ ?hsZZ ?hDZZ ?hTZZ ?hbZZ ?hblZZ ?hcZZ ?hb0ZZ ?hb1ZZ ?hdZZ ?huZZ ?_; (case BZZ => k_asm); (case FZZ => k_asm); (case XZZ => k_asm); (case NZZ => k_asm); (case TZZ => k_asm); (case hkZZ => first | exact rfl | assumption); (case m1ZZ => k_mem); (case m2ZZ => k_mem); (case m3ZZ => k_mem); (case UZZ => intro o'Z; k_upd); (case n1ZZ => assumption); (case n2ZZ => assumption); (case n3ZZ => assumption); (case hsZZ => assumption); (case hDZZ => assumption); (case hTZZ => assumption); (case hbZZ => assumption); (case hblZZ => (rw [octs_length]; decide)); (case hcZZ => assumption); (case hb0ZZ => assumption); (case hb1ZZ => assumption); (case hdZZ => ktr_room); (case huZZ => ktr_units)); intro nZ tZ o'Z c'Z h'Z tk'Z hKnZ hFuZ hclZ hD'Z F'Z N'Z; (try dsimp only))) | (k_here; (with_reducible show wpAny _ _ (call (Value.ref 67) _) _ _ _); k_dflt (refine' bloom_with_ok ?BZZ ?FZZ ?XZZ ?NZZ ?TZZ ?hkZZ ?m1ZZ ?m2ZZ ?m3ZZ ?UZZ ?n1ZZ ?n2ZZ ?n3ZZ ?hsZZ ?hDZZ ?hTZZ ?hbZZ ?hblZZ ?hcZZ ?hb0ZZ ?hb1ZZ ?hdZZ ?huZZ ?_; (case BZZ => k_asm); (case FZZ => k_asm); (case XZZ => k_asm); (case NZZ => k_asm); (case TZZ => k_asm); (case hkZZ => first | exact rfl | assumption); (case m1ZZ => k_mem); (case m2ZZ => k_mem); (case m3ZZ => k_mem); (case UZZ => intro o'Z; k_upd); (case n1ZZ => assumption); (case n2ZZ => assumption); (case n3ZZ => assumption); (case hsZZ => assumption); (case hDZZ => assumption); (case hTZZ => assumption); (case hbZZ => assumption); (case hblZZ => (rw [octs_length]; decide)); (case hcZZ => assumption); (case hb0ZZ => assumption); (case hb1ZZ => assumption); (case hdZZ => ktr_room); (case huZZ => ktr_units)); intro nZ tZ o'Z c'Z h'Z tk'Z hKnZ hFuZ hclZ hD'Z F'Z N'Z; (try dsimp only)) | (with_reducible (k_here; (with_reducible show wpAny _ _ (call (Value.ref 48) _) _ _ _); k_dflt (refine' word_octets_ok ?BZZ ?FZZ ?XZZ ?NZZ ?TZZ ?hkZZ ?hn0ZZ ?hn1ZZ ?hdZZ ?huZZ ?_; (case BZZ => k_asm); (case FZZ => k_asm); (case XZZ => k_asm); (case NZZ => k_asm); (case TZZ => k_asm); (case hkZZ => first | exact rfl | assumption); (case hn0ZZ => assumption); (case hn1ZZ => assumption); (case hdZZ => ktr_room); (case huZZ => ktr_units)); intro rZ tZ h'Z tk'Z hrZ F'Z N'Z; (try dsimp only))) | (k_here; (with_reducible show wpAny _ _ (call (Value.ref 48) _) _ _ _); k_dflt (refine' word_octets_ok ?BZZ ?FZZ ?XZZ ?NZZ ?TZZ ?hkZZ ?hn0ZZ ?hn1ZZ ?hdZZ ?huZZ ?_; (case BZZ => k_asm); (case FZZ => k_asm); (case XZZ => k_asm); (case NZZ => k_asm); (case TZZ => k_asm); (case hkZZ => first | exact rfl | assumption); (case hn0ZZ => assumption); (case hn1ZZ => assumption); (case hdZZ => ktr_room); (case huZZ => ktr_units)); intro rZ tZ h'Z tk'Z hrZ F'Z N'Z; (try dsimp only)) | (with_reducible (k_here; (with_reducible show wpAny _ _ (subscriptTail _ (Expr.Slice _ _ none _) (Value.bytes _ _) (Value.ref _)) _ _ _); (with_reducible rename Fr _ _ _ _ => F'Z); (with_reducible rename News _ _ _ _ => N'Z); (refine slice12 (s := ⟨_, _, _, _, _⟩) F'Z N'Z (by with_reducible assumption) ?_); intro r9Z h'Z t9Z k9Z hr9Z F'Z N'Z)) | (k_here; (with_reducible show wpAny _ _ (subscriptTail _ (Expr.Slice _ _ none _) (Value.bytes _ _) (Value.ref _)) _ _ _); (with_reducible rename Fr _ _ _ _ => F'Z); (with_reducible rename News _ _ _ _ => N'Z); (refine slice12 (s := ⟨_, _, _, _, _⟩) F'Z N'Z (by with_reducible assumption) ?_); intro r9Z h'Z t9Z k9Z hr9Z F'Z N'Z) | (with_reducible (k_here; (with_reducible show wpAny _ _ (getAttr (Value.ref _) (Str.ofString "topics") _) _ _ _); (k_dflt (refine' get_topics ?F9ZZ ?X9ZZ ?R9ZZ ?g9ZZ ?h9ZZ ?a9ZZ ?_; (case F9ZZ => k_asm); (case X9ZZ => k_asm); (case R9ZZ => exact RowAt.keeps (by assumption) (Fr.keep (by assumption))); (case g9ZZ => k_is); (case h9ZZ => k_is); (case a9ZZ => k_is))))) | (k_here; (with_reducible show wpAny _ _ (getAttr (Value.ref _) (Str.ofString "topics") _) _ _ _); (k_dflt (refine' get_topics ?F9ZZ ?X9ZZ ?R9ZZ ?g9ZZ ?h9ZZ ?a9ZZ ?_; (case F9ZZ => k_asm); (case X9ZZ => k_asm); (case R9ZZ => exact RowAt.keeps (by assumption) (Fr.keep (by assumption))); (case g9ZZ => k_is); (case h9ZZ => k_is); (case a9ZZ => k_is)))) | (with_reducible (k_here; (with_reducible show wpAny _ _ (getAttr (Value.ref _) (Str.ofString "address") _) _ _ _); (k_dflt (refine' get_address ?F9ZZ ?X9ZZ ?R9ZZ ?g9ZZ ?h9ZZ ?a9ZZ ?_; (case F9ZZ => k_asm); (case X9ZZ => k_asm); (case R9ZZ => exact RowAt.keeps (by assumption) (Fr.keep (by assumption))); (case g9ZZ => k_is); (case h9ZZ => k_is); (case a9ZZ => k_is)); intro ta9Z))) | (k_here; (with_reducible show wpAny _ _ (getAttr (Value.ref _) (Str.ofString "address") _) _ _ _); (k_dflt (refine' get_address ?F9ZZ ?X9ZZ ?R9ZZ ?g9ZZ ?h9ZZ ?a9ZZ ?_; (case F9ZZ => k_asm); (case X9ZZ => k_asm); (case R9ZZ => exact RowAt.keeps (by assumption) (Fr.keep (by assumption))); (case g9ZZ => k_is); (case h9ZZ => k_is); (case a9ZZ => k_is)); intro ta9Z)) | (with_reducible (k_here; (with_reducible show wpAny _ _ (exec (Stmt.For (Expr.Name _ _) (Expr.Attribute _ _ _) _ _ _) _) _ _ _); (rename Fr _ _ _ _ => lF'Z); (with_unfolding_all refine' For_invVF lF'Z ?k1ZZ ?k2ZZ ?_; (case k1ZZ => exact rfl); (case k2ZZ => exact rfl); k_whole))) | (k_here; (with_reducible show wpAny _ _ (exec (Stmt.For (Expr.Name _ _) (Expr.Attribute _ _ _) _ _ _) _) _ _ _); (rename Fr _ _ _ _ => lF'Z); (with_unfolding_all refine' For_invVF lF'Z ?k1ZZ ?k2ZZ ?_; (case k1ZZ => exact rfl); (case k2ZZ => exact rfl); k_whole)) | (with_reducible (k_here; (with_reducible show wpAny _ _ (exec (Stmt.For (Expr.Name _ _) (Expr.Name _ _) _ _ _) _) _ _ _); (rename Fr _ _ _ _ => lF'Z); (with_unfolding_all refine' For_invVF lF'Z ?k1ZZ ?k2ZZ ?_; (case k1ZZ => exact rfl); (case k2ZZ => exact rfl); k_whole))) | (k_here; (with_reducible show wpAny _ _ (exec (Stmt.For (Expr.Name _ _) (Expr.Name _ _) _ _ _) _) _ _ _); (rename Fr _ _ _ _ => lF'Z); (with_unfolding_all refine' For_invVF lF'Z ?k1ZZ ?k2ZZ ?_; (case k1ZZ => exact rfl); (case k2ZZ => exact rfl); k_whole)) | (with_reducible (k_here; (with_reducible show wpAny _ _ (pyIter (Value.ref _)) _ _ _); refine halt ?_)) | (k_unfold; (try dsimp only)) | (k_end; kc_close) | walk1 | (dsimp only; walk1) | (leave1; (try dsimp only)) | fail "no step")
      show EndG _ _ _ _ _ _ _
      rename Fr g' L' _ _ => F5
      rename News g' L' _ _ => N5
      rename Knows _ _ _ => hK5
      rename Further cj _ => hF5
      rename _ ≤ List.length cj + 1 => hl5
      rename Bears w _ _ => hD5
      have M3 := M2.step hK5 hF5 hl5 hD5
      refine EndG.intro F5 N5 (by k_mem) (by k_allIn) (nx := [(I, oI), (x, instObj 138 dx), (dx, dictOf [⟨PyData.keyHash w.params (Str.ofString "known"), .str (Str.ofString "known") tkn, .ref kd⟩] nkd), (kd, _)]) ?_ ⟨_, _, _, _, _, bfr_ext rfl rfl rfl rfl rfl rfl (fun z z1 z2 z3 z4 z5 z6 => by simp only [bfr, z1, z2, z3, z4, z5, z6, if_false]), rfl, (M3.more (by omega)).of ?_⟩
      · simp only [List.forall_mem_cons, List.not_mem_nil, false_implies, implies_true, and_true]
        exact ⟨oJ0, oJ1, oJ2, oJ3⟩
      · rw [List.append_assoc, List.cons_append, List.take_add_one, htp]
        simp
    · rintro m₁ news₁ h3 tk3 ⟨B', tB', oj, cj, qt', rfl, rfl, M2⟩ F6 N6
      clear hF3 hl3 hD3 hK3 F3 N3 F2 N2
      repeat' (first | (with_reducible (k_here; (with_reducible show wpAny _ _ (call (Value.ref 67) _) _ _ _); k_dflt (refine' bloom_with_ok ?BZZ ?FZZ ?XZZ ?NZZ ?TZZ ?hkZZ ?m1ZZ ?m2ZZ ?m3ZZ ?UZZ ?n1ZZ ?n2ZZ ?n3ZZ ?hsZZ ?hDZZ ?hTZZ ?hbZZ ?hblZZ ?hcZZ ?hb0ZZ ?hb1ZZ ?hdZZ ?huZZ ?_; (case BZZ => k_asm); (case FZZ => k_asm); (case XZZ => k_asm); (case NZZ => k_asm); (case TZZ => k_asm); (case hkZZ => first | exact rfl | assumption); (case m1ZZ => k_mem); (case m2ZZ => k_mem); (case m3ZZ => k_mem); (case UZZ => intro o'Z; k_upd); (case n1ZZ => assumption); (case n2ZZ => assumption); (case n3ZZ => assumption); (case hsZZ => assumption); (case hDZZ => assumption); (case hTZZ => assumption); (case hbZZ => assumption); (case hblZZ => (rw [octs_length]; decide)); (case hcZZ => assumption); (case hb0ZZ => assumption); (case hb1ZZ => assumption); (case hdZZ => ktr_room); (case huZZ => ktr_units)); intro nZ tZ o'Z c'Z h'Z tk'Z hKnZ hFuZ hclZ hD'Z F'Z N'Z; (try dsimp only))) | (k_here; (with_reducible show wpAny _ _ (call (Value.ref 67) _) _ _ _); k_dflt (refine' bloom_with_ok ?BZZ ?FZZ ?XZZ ?NZZ ?TZZ ?hkZZ ?m1ZZ ?m2ZZ ?m3ZZ ?UZZ ?n1ZZ ?n2ZZ ?n3ZZ ?hsZZ ?hDZZ ?hTZZ ?hbZZ ?hblZZ ?hcZZ ?hb0ZZ ?hb1ZZ ?hdZZ ?huZZ ?_; (case BZZ => k_asm); (case FZZ => k_asm); (case XZZ => k_asm); (case NZZ => k_asm); (case TZZ => k_asm); (case hkZZ => first | exact rfl | assumption); (case m1ZZ => k_mem); (case m2ZZ => k_mem); (case m3ZZ => k_mem); (case UZZ => intro o'Z; k_upd); (case n1ZZ => assumption); (case n2ZZ => assumption); (case n3ZZ => assumption); (case hsZZ => assumption); (case hDZZ => assumption); (case hTZZ => assumption); (case hbZZ => assumption); (case hblZZ => (rw [octs_length]; decide)); (case hcZZ => assumption); (case hb0ZZ => assumption); (case hb1ZZ => assumption); (case hdZZ => ktr_room); (case huZZ => ktr_units)); intro nZ tZ o'Z c'Z h'Z tk'Z hKnZ hFuZ hclZ hD'Z F'Z N'Z; (try dsimp only)) | (with_reducible (k_here; (with_reducible show wpAny _ _ (call (Value.ref 48) _) _ _ _); k_dflt (refine' word_octets_ok ?BZZ ?FZZ ?XZZ ?NZZ ?TZZ ?hkZZ ?hn0ZZ ?hn1ZZ ?hdZZ ?huZZ ?_; (case BZZ => k_asm); (case FZZ => k_asm); (case XZZ => k_asm); (case NZZ => k_asm); (case TZZ => k_asm); (case hkZZ => first | exact rfl | assumption); (case hn0ZZ => assumption); (case hn1ZZ => assumption); (case hdZZ => ktr_room); (case huZZ => ktr_units)); intro rZ tZ h'Z tk'Z hrZ F'Z N'Z; (try dsimp only))) | (k_here; (with_reducible show wpAny _ _ (call (Value.ref 48) _) _ _ _); k_dflt (refine' word_octets_ok ?BZZ ?FZZ ?XZZ ?NZZ ?TZZ ?hkZZ ?hn0ZZ ?hn1ZZ ?hdZZ ?huZZ ?_; (case BZZ => k_asm); (case FZZ => k_asm); (case XZZ => k_asm); (case NZZ => k_asm); (case TZZ => k_asm); (case hkZZ => first | exact rfl | assumption); (case hn0ZZ => assumption); (case hn1ZZ => assumption); (case hdZZ => ktr_room); (case huZZ => ktr_units)); intro rZ tZ h'Z tk'Z hrZ F'Z N'Z; (try dsimp only)) | (with_reducible (k_here; (with_reducible show wpAny _ _ (subscriptTail _ (Expr.Slice _ _ none _) (Value.bytes _ _) (Value.ref _)) _ _ _); (with_reducible rename Fr _ _ _ _ => F'Z); (with_reducible rename News _ _ _ _ => N'Z); (refine slice12 (s := ⟨_, _, _, _, _⟩) F'Z N'Z (by with_reducible assumption) ?_); intro r9Z h'Z t9Z k9Z hr9Z F'Z N'Z)) | (k_here; (with_reducible show wpAny _ _ (subscriptTail _ (Expr.Slice _ _ none _) (Value.bytes _ _) (Value.ref _)) _ _ _); (with_reducible rename Fr _ _ _ _ => F'Z); (with_reducible rename News _ _ _ _ => N'Z); (refine slice12 (s := ⟨_, _, _, _, _⟩) F'Z N'Z (by with_reducible assumption) ?_); intro r9Z h'Z t9Z k9Z hr9Z F'Z N'Z) | (with_reducible (k_here; (with_reducible show wpAny _ _ (getAttr (Value.ref _) (Str.ofString "topics") _) _ _ _); (k_dflt (refine' get_topics ?F9ZZ ?X9ZZ ?R9ZZ ?g9ZZ ?h9ZZ ?a9ZZ ?_; (case F9ZZ => k_asm); (case X9ZZ => k_asm); (case R9ZZ => exact RowAt.keeps (by assumption) (Fr.keep (by assumption))); (case g9ZZ => k_is); (case h9ZZ => k_is); (case a9ZZ => k_is))))) | (k_here; (with_reducible show wpAny _ _ (getAttr (Value.ref _) (Str.ofString "topics") _) _ _ _); (k_dflt (refine' get_topics ?F9ZZ ?X9ZZ ?R9ZZ ?g9ZZ ?h9ZZ ?a9ZZ ?_; (case F9ZZ => k_asm); (case X9ZZ => k_asm); (case R9ZZ => exact RowAt.keeps (by assumption) (Fr.keep (by assumption))); (case g9ZZ => k_is); (case h9ZZ => k_is); (case a9ZZ => k_is)))) | (with_reducible (k_here; (with_reducible show wpAny _ _ (getAttr (Value.ref _) (Str.ofString "address") _) _ _ _); (k_dflt (refine' get_address ?F9ZZ ?X9ZZ ?R9ZZ ?g9ZZ ?h9ZZ ?a9ZZ ?_; (case F9ZZ => k_asm); (case X9ZZ => k_asm); (case R9ZZ => exact RowAt.keeps (by assumption) (Fr.keep (by assumption))); (case g9ZZ => k_is); (case h9ZZ => k_is); (case a9ZZ => k_is)); intro ta9Z))) | (k_here; (with_reducible show wpAny _ _ (getAttr (Value.ref _) (Str.ofString "address") _) _ _ _); (k_dflt (refine' get_address ?F9ZZ ?X9ZZ ?R9ZZ ?g9ZZ ?h9ZZ ?a9ZZ ?_; (case F9ZZ => k_asm); (case X9ZZ => k_asm); (case R9ZZ => exact RowAt.keeps (by assumption) (Fr.keep (by assumption))); (case g9ZZ => k_is); (case h9ZZ => k_is); (case a9ZZ => k_is)); intro ta9Z)) | (with_reducible (k_here; (with_reducible show wpAny _ _ (exec (Stmt.For (Expr.Name _ _) (Expr.Attribute _ _ _) _ _ _) _) _ _ _); (rename Fr _ _ _ _ => lF'Z); (with_unfolding_all refine' For_invVF lF'Z ?k1ZZ ?k2ZZ ?_; (case k1ZZ => exact rfl); (case k2ZZ => exact rfl); k_whole))) | (k_here; (with_reducible show wpAny _ _ (exec (Stmt.For (Expr.Name _ _) (Expr.Attribute _ _ _) _ _ _) _) _ _ _); (rename Fr _ _ _ _ => lF'Z); (with_unfolding_all refine' For_invVF lF'Z ?k1ZZ ?k2ZZ ?_; (case k1ZZ => exact rfl); (case k2ZZ => exact rfl); k_whole)) | (with_reducible (k_here; (with_reducible show wpAny _ _ (exec (Stmt.For (Expr.Name _ _) (Expr.Name _ _) _ _ _) _) _ _ _); (rename Fr _ _ _ _ => lF'Z); (with_unfolding_all refine' For_invVF lF'Z ?k1ZZ ?k2ZZ ?_; (case k1ZZ => exact rfl); (case k2ZZ => exact rfl); k_whole))) | (k_here; (with_reducible show wpAny _ _ (exec (Stmt.For (Expr.Name _ _) (Expr.Name _ _) _ _ _) _) _ _ _); (rename Fr _ _ _ _ => lF'Z); (with_unfolding_all refine' For_invVF lF'Z ?k1ZZ ?k2ZZ ?_; (case k1ZZ => exact rfl); (case k2ZZ => exact rfl); k_whole)) | (with_reducible (k_here; (with_reducible show wpAny _ _ (pyIter (Value.ref _)) _ _ _); refine halt ?_)) | (k_unfold; (try dsimp only)) | (k_end; kc_close) | walk1 | (dsimp only; walk1) | (leave1; (try dsimp only)) | fail "no step")
      show EndG _ _ _ _ _ _ _
      have hvl : vs.length = r.tops.length := hiv.length
      refine EndG.intro F6 N6 (by k_mem) (by k_allIn) (nx := [(x, instObj 138 dx), (dx, dictOf [⟨PyData.keyHash w.params (Str.ofString "known"), .str (Str.ofString "known") tkn, .ref kd⟩] nkd), (kd, _)]) ?_ ⟨_, _, _, _, _, _, bfr_ext rfl rfl rfl rfl rfl rfl (fun z z1 z2 z3 z4 z5 z6 => by simp only [bfr, z1, z2, z3, z4, z5, z6, if_false]), rfl, (M2.more (by omega)).of ?_⟩
      · simp only [List.forall_mem_cons, List.not_mem_nil, false_implies, implies_true, and_true]
        exact ⟨oI1, oI2, oI3⟩
      · rw [hvl, List.take_length, List.take_add_one, hr]
        simp [askAll, rowKeys]
  · rintro m₁ news₁ h3 tk3 ⟨B', tB', oj, cj, ql, qt', rfl, rfl, M2⟩ F6 N6
    rw [List.length_map, List.take_length] at M2
    repeat' (first | (with_reducible (k_here; (with_reducible show wpAny _ _ (call (Value.ref 67) _) _ _ _); k_dflt (refine' bloom_with_ok ?BZZ ?FZZ ?XZZ ?NZZ ?TZZ ?hkZZ ?m1ZZ ?m2ZZ ?m3ZZ ?UZZ ?n1ZZ ?n2ZZ ?n3ZZ ?hsZZ ?hDZZ ?hTZZ ?hbZZ ?hblZZ ?hcZZ ?hb0ZZ ?hb1ZZ ?hdZZ ?huZZ ?_; (case BZZ => k_asm); (case FZZ => k_asm); (case XZZ => k_asm); (case NZZ => k_asm); (case TZZ => k_asm); (case hkZZ => first | exact rfl | assumption); (case m1ZZ => k_mem); (case m2ZZ => k_mem); (case m3ZZ => k_mem); (case UZZ => intro o'Z; k_upd); (case n1ZZ => assumption); (case n2ZZ => assumption); (case n3ZZ => assumption); (case hsZZ => assumption); (case hDZZ => assumption); (case hTZZ => assumption); (case hbZZ => assumption); (case hblZZ => (rw [octs_length]; decide)); (case hcZZ => assumption); (case hb0ZZ => assumption); (case hb1ZZ => assumption); (case hdZZ => ktr_room); (case huZZ => ktr_units)); intro nZ tZ o'Z c'Z h'Z tk'Z hKnZ hFuZ hclZ hD'Z F'Z N'Z; (try dsimp only))) | (k_here; (with_reducible show wpAny _ _ (call (Value.ref 67) _) _ _ _); k_dflt (refine' bloom_with_ok ?BZZ ?FZZ ?XZZ ?NZZ ?TZZ ?hkZZ ?m1ZZ ?m2ZZ ?m3ZZ ?UZZ ?n1ZZ ?n2ZZ ?n3ZZ ?hsZZ ?hDZZ ?hTZZ ?hbZZ ?hblZZ ?hcZZ ?hb0ZZ ?hb1ZZ ?hdZZ ?huZZ ?_; (case BZZ => k_asm); (case FZZ => k_asm); (case XZZ => k_asm); (case NZZ => k_asm); (case TZZ => k_asm); (case hkZZ => first | exact rfl | assumption); (case m1ZZ => k_mem); (case m2ZZ => k_mem); (case m3ZZ => k_mem); (case UZZ => intro o'Z; k_upd); (case n1ZZ => assumption); (case n2ZZ => assumption); (case n3ZZ => assumption); (case hsZZ => assumption); (case hDZZ => assumption); (case hTZZ => assumption); (case hbZZ => assumption); (case hblZZ => (rw [octs_length]; decide)); (case hcZZ => assumption); (case hb0ZZ => assumption); (case hb1ZZ => assumption); (case hdZZ => ktr_room); (case huZZ => ktr_units)); intro nZ tZ o'Z c'Z h'Z tk'Z hKnZ hFuZ hclZ hD'Z F'Z N'Z; (try dsimp only)) | (with_reducible (k_here; (with_reducible show wpAny _ _ (call (Value.ref 48) _) _ _ _); k_dflt (refine' word_octets_ok ?BZZ ?FZZ ?XZZ ?NZZ ?TZZ ?hkZZ ?hn0ZZ ?hn1ZZ ?hdZZ ?huZZ ?_; (case BZZ => k_asm); (case FZZ => k_asm); (case XZZ => k_asm); (case NZZ => k_asm); (case TZZ => k_asm); (case hkZZ => first | exact rfl | assumption); (case hn0ZZ => assumption); (case hn1ZZ => assumption); (case hdZZ => ktr_room); (case huZZ => ktr_units)); intro rZ tZ h'Z tk'Z hrZ F'Z N'Z; (try dsimp only))) | (k_here; (with_reducible show wpAny _ _ (call (Value.ref 48) _) _ _ _); k_dflt (refine' word_octets_ok ?BZZ ?FZZ ?XZZ ?NZZ ?TZZ ?hkZZ ?hn0ZZ ?hn1ZZ ?hdZZ ?huZZ ?_; (case BZZ => k_asm); (case FZZ => k_asm); (case XZZ => k_asm); (case NZZ => k_asm); (case TZZ => k_asm); (case hkZZ => first | exact rfl | assumption); (case hn0ZZ => assumption); (case hn1ZZ => assumption); (case hdZZ => ktr_room); (case huZZ => ktr_units)); intro rZ tZ h'Z tk'Z hrZ F'Z N'Z; (try dsimp only)) | (with_reducible (k_here; (with_reducible show wpAny _ _ (subscriptTail _ (Expr.Slice _ _ none _) (Value.bytes _ _) (Value.ref _)) _ _ _); (with_reducible rename Fr _ _ _ _ => F'Z); (with_reducible rename News _ _ _ _ => N'Z); (refine slice12 (s := ⟨_, _, _, _, _⟩) F'Z N'Z (by with_reducible assumption) ?_); intro r9Z h'Z t9Z k9Z hr9Z F'Z N'Z)) | (k_here; (with_reducible show wpAny _ _ (subscriptTail _ (Expr.Slice _ _ none _) (Value.bytes _ _) (Value.ref _)) _ _ _); (with_reducible rename Fr _ _ _ _ => F'Z); (with_reducible rename News _ _ _ _ => N'Z); (refine slice12 (s := ⟨_, _, _, _, _⟩) F'Z N'Z (by with_reducible assumption) ?_); intro r9Z h'Z t9Z k9Z hr9Z F'Z N'Z) | (with_reducible (k_here; (with_reducible show wpAny _ _ (getAttr (Value.ref _) (Str.ofString "topics") _) _ _ _); (k_dflt (refine' get_topics ?F9ZZ ?X9ZZ ?R9ZZ ?g9ZZ ?h9ZZ ?a9ZZ ?_; (case F9ZZ => k_asm); (case X9ZZ => k_asm); (case R9ZZ => exact RowAt.keeps (by assumption) (Fr.keep (by assumption))); (case g9ZZ => k_is); (case h9ZZ => k_is); (case a9ZZ => k_is))))) | (k_here; (with_reducible show wpAny _ _ (getAttr (Value.ref _) (Str.ofString "topics") _) _ _ _); (k_dflt (refine' get_topics ?F9ZZ ?X9ZZ ?R9ZZ ?g9ZZ ?h9ZZ ?a9ZZ ?_; (case F9ZZ => k_asm); (case X9ZZ => k_asm); (case R9ZZ => exact RowAt.keeps (by assumption) (Fr.keep (by assumption))); (case g9ZZ => k_is); (case h9ZZ => k_is); (case a9ZZ => k_is)))) | (with_reducible (k_here; (with_reducible show wpAny _ _ (getAttr (Value.ref _) (Str.ofString "address") _) _ _ _); (k_dflt (refine' get_address ?F9ZZ ?X9ZZ ?R9ZZ ?g9ZZ ?h9ZZ ?a9ZZ ?_; (case F9ZZ => k_asm); (case X9ZZ => k_asm); (case R9ZZ => exact RowAt.keeps (by assumption) (Fr.keep (by assumption))); (case g9ZZ => k_is); (case h9ZZ => k_is); (case a9ZZ => k_is)); intro ta9Z))) | (k_here; (with_reducible show wpAny _ _ (getAttr (Value.ref _) (Str.ofString "address") _) _ _ _); (k_dflt (refine' get_address ?F9ZZ ?X9ZZ ?R9ZZ ?g9ZZ ?h9ZZ ?a9ZZ ?_; (case F9ZZ => k_asm); (case X9ZZ => k_asm); (case R9ZZ => exact RowAt.keeps (by assumption) (Fr.keep (by assumption))); (case g9ZZ => k_is); (case h9ZZ => k_is); (case a9ZZ => k_is)); intro ta9Z)) | (with_reducible (k_here; (with_reducible show wpAny _ _ (exec (Stmt.For (Expr.Name _ _) (Expr.Attribute _ _ _) _ _ _) _) _ _ _); (rename Fr _ _ _ _ => lF'Z); (with_unfolding_all refine' For_invVF lF'Z ?k1ZZ ?k2ZZ ?_; (case k1ZZ => exact rfl); (case k2ZZ => exact rfl); k_whole))) | (k_here; (with_reducible show wpAny _ _ (exec (Stmt.For (Expr.Name _ _) (Expr.Attribute _ _ _) _ _ _) _) _ _ _); (rename Fr _ _ _ _ => lF'Z); (with_unfolding_all refine' For_invVF lF'Z ?k1ZZ ?k2ZZ ?_; (case k1ZZ => exact rfl); (case k2ZZ => exact rfl); k_whole)) | (with_reducible (k_here; (with_reducible show wpAny _ _ (exec (Stmt.For (Expr.Name _ _) (Expr.Name _ _) _ _ _) _) _ _ _); (rename Fr _ _ _ _ => lF'Z); (with_unfolding_all refine' For_invVF lF'Z ?k1ZZ ?k2ZZ ?_; (case k1ZZ => exact rfl); (case k2ZZ => exact rfl); k_whole))) | (k_here; (with_reducible show wpAny _ _ (exec (Stmt.For (Expr.Name _ _) (Expr.Name _ _) _ _ _) _) _ _ _); (rename Fr _ _ _ _ => lF'Z); (with_unfolding_all refine' For_invVF lF'Z ?k1ZZ ?k2ZZ ?_; (case k1ZZ => exact rfl); (case k2ZZ => exact rfl); k_whole)) | (with_reducible (k_here; (with_reducible show wpAny _ _ (pyIter (Value.ref _)) _ _ _); refine halt ?_)) | (k_unfold; (try dsimp only)) | (k_end; kc_close) | walk1 | (dsimp only; walk1) | (leave1; (try dsimp only)) | fail "no step")
    rename Fr h₀ L _ _ => kF
    rename News h₀ L _ _ => kN
    have hl := M2.len
    rw [M2.val]
    refine' hret _ _ _ _ _ M2.fu (by omega) M2.kn M2.bear kF ?h5
    case h5 =>
      refine news_turn N NT kN (fun p hp hf => Fr.keep (h₀ := g') (L := L') (by assumption) _ _ (kG _ _ (N p hp).1 hf)) ?_ ?_ (U _)
      rotate_left
      · k_mem
      · intro p hp hn
        simp only [List.mem_cons, List.not_mem_nil, or_false] at hp
        rcases hp with rfl | rfl | rfl <;> first | exact absurd rfl hn | k_mem
end
section
open PySem.Calls
/-- the law's own def, read off the head's written part -/
noncomputable def lawDef (P : Params) : FuncData := match (hd.heap_39 P).lookup 183 with
  | some ⟨_, _, .func fd, _⟩ => fd
  | _ => default
noncomputable def lawTail (P : Params) (k : Nat) : List Stmt := (match (lawDef P).body with | .stmts b => b | _ => []).drop k
noncomputable def lawScope (P : Params) : Scope := (lawDef P).scope
noncomputable def ovr : List (Str × Value) → (Str → Option Value) → Str → Option Value
  | [], m => m
  | (x, v) :: l, m => fun z => if z = x then some v else ovr l m z
inductive Seen (m : Str → Option Value) : List (Str × Value) → Prop
  | nil : Seen m []
  | cons {x : Str} {v : Value} {l : List (Str × Value)} : m x = some v → Seen m l → Seen m ((x, v) :: l)
theorem seen_ovr {m : Str → Option Value} {l : List (Str × Value)} (h : Seen m l) : ovr l m = m := by
  induction h with
  | nil => rfl
  | @cons x v l e _ ih =>
    funext z
    show (if z = x then some v else ovr l m z) = m z
    rw [ih]
    by_cases q : z = x
    · rw [if_pos q, q]; exact e.symm
    · rw [if_neg q]
/-- a frame with the names that are known ahead -/
theorem frSees {h₀ h : Heap} {L : Addr} {m : Str → Option Value} {l : List (Str × Value)} (F : Fr h₀ L h m) (e : Seen m l) : Fr h₀ L h (ovr l m) := (seen_ovr e).symm ▸ F
end
section
theorem or_add {y i : Nat} (h : y.testBit i = false) : y ||| 2 ^ i = y + 2 ^ i := by
  have h1 : y / 2 ^ i % 2 = 0 := by
    rw [Nat.testBit_eq_decide_div_mod_eq] at h
    have := of_decide_eq_false h
    omega
  have e1 : y = 2 ^ (i + 1) * (y / 2 ^ (i + 1)) + y % 2 ^ i := by
    have a := Nat.div_add_mod y (2 ^ i)
    have b : y / 2 ^ (i + 1) = y / 2 ^ i / 2 := by rw [Nat.pow_succ, Nat.div_div_eq_div_mul]
    have c : y / 2 ^ i = 2 * (y / 2 ^ i / 2) := by omega
    have d : 2 ^ (i + 1) * (y / 2 ^ i / 2) = 2 ^ i * (y / 2 ^ i) := by
      rw [Nat.pow_succ, Nat.mul_assoc, ← c]
    rw [b, d]
    exact a.symm
  generalize y / 2 ^ (i + 1) = q at e1
  have hr : y % 2 ^ i < 2 ^ i := Nat.mod_lt _ (Nat.pow_pos (by decide))
  generalize y % 2 ^ i = r at e1 hr
  have hp : 2 ^ (i + 1) = 2 ^ i + 2 ^ i := by rw [Nat.pow_succ]; omega
  have a1 : 2 ^ (i + 1) * q ||| r = 2 ^ (i + 1) * q + r := (Nat.two_pow_add_eq_or_of_lt (by omega) q).symm
  have a2 : 2 ^ i * 1 ||| r = 2 ^ i * 1 + r := (Nat.two_pow_add_eq_or_of_lt hr 1).symm
  have a3 : 2 ^ (i + 1) * q ||| (2 ^ i + r) = 2 ^ (i + 1) * q + (2 ^ i + r) := (Nat.two_pow_add_eq_or_of_lt (by omega) q).symm
  rw [Nat.mul_one] at a2
  rw [e1, ← a1, Nat.or_assoc, Nat.or_comm r, a2, a3, a1]
  omega
theorem octet_or (n p e : Nat) : ((n ||| 2 ^ p) / 2 ^ (8 * e)) % 2 ^ 8 = (n / 2 ^ (8 * e)) % 2 ^ 8 ||| (2 ^ p / 2 ^ (8 * e)) % 2 ^ 8 := by
  rw [← Nat.shiftRight_eq_div_pow, ← Nat.shiftRight_eq_div_pow, ← Nat.shiftRight_eq_div_pow, Nat.shiftRight_or_distrib, Nat.or_mod_two_pow]
theorem octet_pow (p e : Nat) : (2 ^ p / 2 ^ (8 * e)) % 2 ^ 8 = if p / 8 = e then 2 ^ (p % 8) else 0 := by
  by_cases h1 : p < 8 * e
  · rw [if_neg (by omega), Nat.div_eq_of_lt (Nat.pow_lt_pow_right (by decide) h1)]
  · rw [Nat.pow_div (by omega) (by decide)]
    by_cases h2 : p / 8 = e
    · rw [if_pos h2]
      have e3 : p - 8 * e = p % 8 := by omega
      rw [e3]
      exact Nat.mod_eq_of_lt (Nat.pow_lt_pow_right (by decide) (by omega))
    · rw [if_neg h2]
      obtain ⟨d, hd⟩ : ∃ d, p - 8 * e = 8 + d := ⟨p - 8 * e - 8, by omega⟩
      rw [hd, Nat.pow_add, Nat.mul_mod_right]
theorem octet_at (k n i : Nat) (h : i < k) : (octs k n).getD i 0 = ((n / 2 ^ (8 * (k - 1 - i)) % 2 ^ 8 : Nat) : Int) := by
  have e : (256 : Nat) ^ (k - 1 - i) = 2 ^ (8 * (k - 1 - i)) := by rw [Nat.pow_mul]
  rw [← e]
  unfold octs
  simp [List.getD_eq_getElem?_getD, List.getElem?_map, List.getElem?_range h]
/-- a bit more in the row of octets -/
theorem octs_bit {k n p : Nat} (hp : p < 8 * k) (hb : n.testBit p = false) :
    (octs k n).set (k - 1 - p / 8) ((octs k n).getD (k - 1 - p / 8) 0 + ((2 ^ (p % 8) : Nat) : Int)) = octs k ((n ||| 2 ^ p : Nat) : Int) := by
  have hk : k - 1 - p / 8 < k := by omega
  refine List.ext_getElem (by rw [List.length_set, octs_length, octs_length]) fun i h1 h2 => ?_
  rw [List.length_set, octs_length] at h1
  have g : ∀ m : Nat, ∀ h3 : i < (octs k m).length, (octs k m)[i] = ((m / 2 ^ (8 * (k - 1 - i)) % 2 ^ 8 : Nat) : Int) := fun m h3 => by
    rw [← octet_at k m i h1, List.getD_eq_getElem?_getD, List.getElem?_eq_getElem h3]
    rfl
  rw [List.getElem_set, g n, g (n ||| 2 ^ p), octet_or, octet_pow]
  by_cases q : k - 1 - p / 8 = i
  · rw [if_pos q, if_pos (by omega), octet_at k n _ hk, q]
    have hz : (n / 2 ^ (8 * (k - 1 - i)) % 2 ^ 8).testBit (p % 8) = false := by
      rw [Nat.testBit_mod_two_pow, ← Nat.shiftRight_eq_div_pow, Nat.testBit_shiftRight]
      have e5 : 8 * (k - 1 - i) + p % 8 = p := by omega
      rw [e5, hb, Bool.and_false]
    rw [or_add hz, Int.natCast_add]
  · rw [if_neg q, if_neg (by omega), Nat.or_zero]
theorem orAll_bit (p : Nat) : ∀ (qs : List Nat) (B : Nat), (orAll B qs).testBit p = (B.testBit p || decide (p ∈ qs))
  | [], B => by simp [orAll]
  | q :: qs, B => by
    show (orAll (B ||| 2 ^ q) qs).testBit p = _
    rw [orAll_bit p qs, Nat.testBit_or, Nat.testBit_two_pow]
    by_cases h1 : p = q
    · simp [h1]
    · have h2 : ¬ q = p := fun h => h1 h.symm
      simp [h1, h2]
theorem orAll_snoc (B : Nat) (qs : List Nat) (p : Nat) : orAll B (qs ++ [p]) = orAll B qs ||| 2 ^ p := by
  unfold orAll
  rw [List.foldl_append]
  rfl
theorem orAll_lt {qs : List Nat} {n : Nat} (h : ∀ p ∈ qs, p < n) : orAll 0 qs < 2 ^ n := by
  refine Nat.lt_pow_two_of_testBit _ fun i hi => ?_
  rw [orAll_bit, Nat.zero_testBit, Bool.false_or]
  refine decide_eq_false fun hm => ?_
  have := h i hm
  omega
theorem orAll_same {qs rs : List Nat} (h : ∀ p, p ∈ qs ↔ p ∈ rs) : orAll 0 qs = orAll 0 rs := by
  refine Nat.eq_of_testBit_eq fun i => ?_
  rw [orAll_bit, orAll_bit, decide_eq_decide.mpr (h i)]
theorem sum_bits : ∀ (qs : List Nat), qs.Nodup → (qs.map fun p => 2 ^ p).sum = orAll 0 qs
  | [], _ => rfl
  | q :: qs, h => by
    have hn := List.nodup_cons.mp h
    rw [List.map_cons, List.sum_cons, sum_bits qs hn.2]
    have e : orAll 0 (q :: qs) = orAll 0 (qs ++ [q]) := orAll_same fun p => by simp [or_comm]
    rw [e, orAll_snoc, or_add, Nat.add_comm]
    rw [orAll_bit, Nat.zero_testBit, Bool.false_or]
    exact decide_eq_false hn.1
end
section
open PySem.Calls
/-- the table of the spots that are on -/
def onD (sp : List Nat) : List (PyData × PyData) := sp.map fun (p : Nat) => (PyData.int (p : Int), PyData.bool true)
def IsOn (w : World) (o : Obj) (sp : List Nat) : Prop := ∃ kvs, o.IsDictOf (PySem.intKind PySem.Challenge.rw_pq0387_01.row.prog w) kvs ∧ PyProof.V.FlatPairs PyData.int kvs (onD sp)
def addSp (sp : List Nat) (p : Nat) : List Nat := if p ∈ sp then sp else sp ++ [p]
theorem onD_isSome (p : Nat) : ∀ sp : List Nat, (PySem.Spec.lookup (PyData.int (p : Int)) (onD sp)).isSome = decide (p ∈ sp)
  | [] => rfl
  | i :: sp => by
    show (if PySem.Spec.same (PyData.int (i : Int)) (PyData.int (p : Int)) = true then some (PyData.bool true) else PySem.Spec.lookup (PyData.int (p : Int)) (onD sp)).isSome = _
    rw [PyProof.V.same_int]
    by_cases h : i = p
    · simp [h]
    · have h1 : ¬ (i : Int) = (p : Int) := fun e => h (Int.ofNat.inj e)
      have h2 : ¬ p = i := fun e => h e.symm
      simp [h1, h2, onD_isSome p sp]
theorem onD_any (sp : List Nat) (p : Nat) : ((onD sp).any fun q => PySem.Spec.same q.1 (PyData.int (p : Int))) = decide (p ∈ sp) := by
  induction sp with
  | nil => rfl
  | cons i sp ih =>
    show (PySem.Spec.same (PyData.int (i : Int)) (PyData.int (p : Int)) || (onD sp).any fun q => PySem.Spec.same q.1 (PyData.int (p : Int))) = _
    rw [ih, PyProof.V.same_int]
    by_cases h : i = p
    · simp [h]
    · have h1 : ¬ (i : Int) = (p : Int) := fun e => h (Int.ofNat.inj e)
      have h2 : ¬ p = i := fun e => h e.symm
      simp [h1, h2]
theorem onD_put (sp : List Nat) (p : Nat) : PyProof.V.putD (PyData.int (p : Int)) (PyData.bool true) (onD sp) = onD (addSp sp p) := by
  unfold PyProof.V.putD addSp
  rw [onD_any]
  by_cases hc : p ∈ sp
  · rw [if_pos (decide_eq_true hc), if_pos hc]
    unfold onD
    rw [List.map_map]
    refine List.map_congr_left fun i _ => ?_
    show (if PySem.Spec.same (PyData.int (i : Int)) (PyData.int (p : Int)) = true then (PyData.int (i : Int), PyData.bool true) else (PyData.int (i : Int), PyData.bool true)) = (PyData.int (i : Int), PyData.bool true)
    split <;> rfl
  · rw [if_neg (by simp [hc]), if_neg hc]
    unfold onD
    rw [List.map_append]
    rfl
theorem addSp_mem (sp : List Nat) (p r : Nat) : r ∈ addSp sp p ↔ r ∈ sp ∨ r = p := by
  unfold addSp
  by_cases h : p ∈ sp
  · rw [if_pos h]
    exact ⟨.inl, fun e => e.elim _root_.id fun e => e ▸ h⟩
  · rw [if_neg h]; simp
theorem addSp_nodup {sp : List Nat} (h : sp.Nodup) (p : Nat) : (addSp sp p).Nodup := by
  unfold addSp
  by_cases hp : p ∈ sp
  · rw [if_pos hp]; exact h
  · rw [if_neg hp]
    refine List.nodup_append.mpr ⟨h, by simp, fun a ha b hb => ?_⟩
    rw [List.mem_singleton.mp hb]
    exact fun e => hp (e ▸ ha)
theorem addSp_length (sp : List Nat) (p : Nat) : (addSp sp p).length ≤ sp.length + 1 := by
  unfold addSp
  by_cases hp : p ∈ sp
  · rw [if_pos hp]; omega
  · rw [if_neg hp]; simp
section
variable {w : World} {A : Around} {E : Value → Shared → Prop} {s : Shared} {h₀ : Heap} {L d : Addr} {m : PySem.Str → Option Value} {news : List (Addr × Obj)} {u : Obj → List (Addr × Obj)} {o : Obj} {sp : List Nat} {p : Nat} {tk : Tok}
theorem on_tab {h : Heap} (hm : h.get? d = some o) (hs : (d == sysModules) = false) (hon : IsOn w o sp) : IntTab PySem.Challenge.rw_pq0387_01.row.prog w h d (onD sp) := by
  obtain ⟨kvs, h1, h2⟩ := hon
  exact ⟨hs, kvs, Heap.dictOf_iff.mpr ⟨o, hm, h1⟩, h2⟩
theorem on_notin {Q : Value → Shared → Prop} (N : News h₀ L s.heap news) (hm : (d, o) ∈ news) (hs : (d == sysModules) = false) (hon : IsOn w o sp) (h : Q (.bool (!decide (p ∈ sp))) { s with toks := s.toks + 1 }) :
    wpAny (model PySem.Challenge.rw_pq0387_01.row.prog w) A (compareOp .NotIn (.int (p : Int) tk) (.ref d)) Q E s :=
  notin_intTab (on_tab (N _ hm).1 hs hon) (by rw [onD_isSome]; exact h)
theorem on_set {Q : Unit → Shared → Prop} (F : Fr h₀ L s.heap m) (N : News h₀ L s.heap news) (U : UpdF d o news u) (hon : IsOn w o sp) (hz : sp.length ≤ 1000)
    (h : ∀ h' o', IsOn w o' (addSp sp p) → Fr h₀ L h' m → News h₀ L h' (u o') → Q () { s with heap := h', toks := s.toks + 1 }) :
    wpAny (model PySem.Challenge.rw_pq0387_01.row.prog w) A (setItem (.ref d) (.int (p : Int) tk) (.bool true)) Q E s := by
  obtain ⟨kvs, h1, h2⟩ := hon
  exact setItem_K PyProof.V.same_int (intKind_is _ _ _ _) (PyProof.V.Flat.bool true) F N U h1 h2 (fun h' o' F' N' a b => h h' o' ⟨_, a, by rw [← onD_put]; exact b⟩ F' N') (by unfold onD; rw [List.length_map, sizeLine_eq]; omega)
end
end
section
open PySem.Calls
section
variable {prog : Program} {w : World} {A : Around} {E : Value → Shared → Prop} {s : Shared} {h₀ : Heap} {L rl : Addr} {m : PySem.Str → Option Value} {news : List (Addr × Obj)} {rv : List Value} {Q : Value → Shared → Prop} {k nr : Nat} {n : Int}
theorem bytes_row (F : Fr h₀ L s.heap m) (N : News h₀ L s.heap news) (hm : (rl, listOf rv.toArray nr) ∈ news) (hh : A.handled = none) (ir : IntsAre rv (octs k n)) (hk : k ≤ 300)
    (h : ∀ (b : Array UInt8) h' t' k', KBw.bInts b = octs k n → Fr h₀ L h' m → News h₀ L h' news → Q (.bytes b t') { s with heap := h', toks := k' }) : wpAny (model prog w) A (call (.type "bytes") [.ref rl]) Q E s :=
  KBa.make_K F N hh (PySem.IsL.isList (n := nr) (N _ hm).1) ir octs_in (by rw [octs_length]; omega) fun h' t' k' F' N' hin => h _ h' t' k' (KBa.ints_make hin) F' N'
theorem powBits {b : Int} {t u : Tok} (h0 : 3 ≤ b) (h1 : b ≤ 11) (h : Q (.int (2 ^ b.toNat) s.toks) { s with toks := s.toks + 1 }) :
    wpAny (model prog w) A (binaryOp .Pow (.int 2 t) (.int b u)) Q E s := pow_int_small (by omega) (by omega) (by decide) h
theorem powPow {b : Int} {t u : Tok} (h0 : 3 ≤ b) (h1 : b ≤ 11) (h : Q (.int (2 ^ ((2 : Int) ^ b.toNat).toNat) s.toks) { s with toks := s.toks + 1 }) :
    wpAny (model prog w) A (binaryOp .Pow (.int 2 t) (.int (2 ^ b.toNat) u)) Q E s := by
  have := pow_le16 (b := b) (by omega) (by omega)
  rw [Int.one_mul] at this
  exact pow_int_small this.1 this.2 (by decide) h
theorem pow_bad (b : Int) : 1 * 2 ^ Int.toNat (1 * 2 ^ Int.toNat b) ≤ (2 : Int) ^ ((2 : Int) ^ b.toNat).toNat := by
  rw [Int.one_mul, Int.one_mul]
  exact Int.le_refl _
theorem bytes_ne {b c : Array UInt8} {ks : List Int} (h1 : KBw.bInts b = ks) (h2 : KBw.bInts c = ks) : b = c := by
  have h : (b.toList.map fun c => (c.toNat : Int)) = c.toList.map fun c => (c.toNat : Int) := h1.trans h2.symm
  refine Array.toList_inj.mp ((List.map_inj_right fun x y e => ?_).mp h)
  exact UInt8.toNat_inj.mp (Int.ofNat.inj e)
end
set_option maxRecDepth 100000 in
set_option maxHeartbeats 8000000 in
theorem seg14 {w : World} {mean : ExcName → Option Value} {mg mb : Str → Option Value} {dp un : Nat} {gd : Option (List Code)} {fa : Addr} {cd : Value} {A₀ : Around} {base h₀ : Heap} {L : Addr} {m : Str → Option Value} {s : Shared} {Q : Flow → Shared → Prop} {wl q rl : Addr} {vs rv : List Value} {ns : List Int} {nq nr : Nat} {ow : Obj} {bits : Int} {due : Nat} {tb td : Tok}
    (B : Below A₀ base [] h₀) (F : Fr h₀ L s.heap m) (X : (Mine.hd.heap_39 w.params).In h₀) (XB : (Mine.hd.heap_39 w.params).In base) (T : Top hd.view_39 (looseW hd.view_39 [Str.ofString "WORD", Str.ofString "LEAST_ADDRESS"]) mean mg mb h₀) (TB : Top hd.view_39 (looseW hd.view_39 [Str.ofString "WORD", Str.ofString "LEAST_ADDRESS"]) mean mg mb base) (N : News h₀ L s.heap [(wl, ow), (q, listOf vs.toArray nq), (rl, listOf rv.toArray nr)])
    (n1 : q ≠ wl) (n2 : rl ≠ wl) (hW : IsWell q ns ow) (iv : IntsAre vs ns) (hn : ns.length ≤ 60) (hv : ∀ v ∈ ns, 0 ≤ v ∧ v < 2147483647)
    (hb0 : 3 ≤ bits) (hb1 : bits ≤ 11) (hlt : due < 2 ^ 2 ^ bits.toNat) (ir : IntsAre rv (octs (wide bits) due))
    (v1 : m (Str.ofString "well") = some (.ref wl)) (v2 : m (Str.ofString "bits") = some (.int bits tb)) (v3 : m (Str.ofString "due") = some (.int (due : Int) td)) (v4 : m (Str.ofString "octet_row") = some (.ref rl))
    (hQ : ∀ h' tk' m', Fr h₀ L h' m' → Q (.ret (.bool true)) { s with heap := h', toks := tk' }) (hd : dp + 60 < recursionLimit) (hu : un + 600 < cLine) : wpAny (model PySem.Challenge.rw_pq0387_01.row.prog w) (ktrTop dp un gd (Str.ofString "law") (lawScope w.params) L fa cd [(Str.ofString "on", L + 1)] []) (execs (lawTail w.params 14) (envX (Str.ofString "law") (lawScope w.params) L fa cd [(Str.ofString "on", L + 1)])) Q (fun _ _ => False) s := by
  w_top off
  have hb16 := le16 hb1
  have hw300 : wide bits ≤ 300 := Nat.le_trans (wide_le hb1) (by decide)
  replace F := frSees F (.cons v1 (.cons v2 (.cons v3 (.cons v4 (.nil)))))
  simp only [ovr] at F
  clear v1 v2 v3 v4
  with_unfolding_all (show wpAny _ (ktrTop _ _ _ _ ⟨_, _, _, _, _⟩ _ _ _ _ _) (execs (_ :: _) (envX _ ⟨_, _, _, _, _⟩ _ _ _ _)) _ _ _)
  revert X; k_fill; intro X
  repeat' (first | (with_reducible (k_here; (with_reducible show wpAny _ _ (call (Value.ref 178) _) _ _ _); k_dflt (refine' refused_ok ?BZZ ?FZZ ?XZZ ?XBZZ ?TZZ ?TBZZ ?hkZZ ?hbadZZ ?hdZZ ?huZZ ?_; (case BZZ => k_asm); (case FZZ => k_asm); (case XZZ => k_asm); (case XBZZ => assumption); (case TZZ => k_asm); (case TBZZ => assumption); (case hkZZ => first | exact rfl | assumption); (case hbadZZ => first | exact Or.inl (by decide) | exact Or.inr (Or.inl (by decide)) | exact Or.inr (Or.inr ⟨by with_reducible assumption, by with_reducible assumption, Or.inl (by decide)⟩) | exact Or.inr (Or.inr ⟨by with_reducible assumption, by with_reducible assumption, Or.inr (pow_bad _)⟩)); (case hdZZ => ktr_room); (case huZZ => ktr_units)); intro h'Z tk'Z F'Z; (try dsimp only))) | (k_here; (with_reducible show wpAny _ _ (call (Value.ref 178) _) _ _ _); k_dflt (refine' refused_ok ?BZZ ?FZZ ?XZZ ?XBZZ ?TZZ ?TBZZ ?hkZZ ?hbadZZ ?hdZZ ?huZZ ?_; (case BZZ => k_asm); (case FZZ => k_asm); (case XZZ => k_asm); (case XBZZ => assumption); (case TZZ => k_asm); (case TBZZ => assumption); (case hkZZ => first | exact rfl | assumption); (case hbadZZ => first | exact Or.inl (by decide) | exact Or.inr (Or.inl (by decide)) | exact Or.inr (Or.inr ⟨by with_reducible assumption, by with_reducible assumption, Or.inl (by decide)⟩) | exact Or.inr (Or.inr ⟨by with_reducible assumption, by with_reducible assumption, Or.inr (pow_bad _)⟩)); (case hdZZ => ktr_room); (case huZZ => ktr_units)); intro h'Z tk'Z F'Z; (try dsimp only)) | (with_reducible (k_here; (with_reducible show wpAny _ _ (binaryOp Operator.Pow (Value.int _ _) (Value.int _ _)) _ _ _); first | (with_reducible refine powBits (by with_reducible assumption) (by with_reducible assumption) ?_) | (with_reducible refine powPow (by with_reducible assumption) (by with_reducible assumption) ?_))) | (with_reducible (k_here; (with_reducible show wpAny _ _ (call (Value.type "bytes") [Value.ref _]) _ _ _); k_dflt (refine' bytes_row ?k1ZZ ?k2ZZ ?k3ZZ ?k4ZZ ?k5ZZ ?k6ZZ ?_; (case k1ZZ => k_asm); (case k2ZZ => k_asm); (case k3ZZ => k_mem); (case k4ZZ => rfl); (case k5ZZ => with_reducible assumption); (case k6ZZ => with_reducible assumption)); intro r9Z h'Z t9Z k9Z hr9Z F'Z N'Z)) | (k_here; (with_reducible show wpAny _ _ (call (Value.type "bytes") [Value.ref _]) _ _ _); k_dflt (refine' bytes_row ?k1ZZ ?k2ZZ ?k3ZZ ?k4ZZ ?k5ZZ ?k6ZZ ?_; (case k1ZZ => k_asm); (case k2ZZ => k_asm); (case k3ZZ => k_mem); (case k4ZZ => rfl); (case k5ZZ => with_reducible assumption); (case k6ZZ => with_reducible assumption)); intro r9Z h'Z t9Z k9Z hr9Z F'Z N'Z) | (with_reducible (k_here; (with_reducible show wpAny _ _ (call (Value.ref 154) _) _ _ _); k_dflt (refine' draw_ok ?BZZ ?FZZ ?XZZ ?NZZ ?TZZ ?hkZZ ?m1ZZ ?m2ZZ ?hWZZ ?UZZ ?hqZZ ?ivZZ ?hnZZ ?hvZZ ?hz0ZZ ?hz1ZZ ?hdZZ ?huZZ ?_; (case BZZ => k_asm); (case FZZ => k_asm); (case XZZ => k_asm); (case NZZ => k_asm); (case TZZ => k_asm); (case hkZZ => first | exact rfl | assumption); (case m1ZZ => k_mem); (case m2ZZ => k_mem); (case hWZZ => assumption); (case UZZ => intro o'Z; k_upd); (case hqZZ => assumption); (case ivZZ => assumption); (case hnZZ => assumption); (case hvZZ => assumption); (case hz0ZZ => omega); (case hz1ZZ => omega); (case hdZZ => ktr_room); (case huZZ => ktr_units)); intro r9Z t9Z o9Z h'Z tk'Z hr0Z hr1Z hW'Z F'Z N'Z; (try dsimp only))) | (k_here; (with_reducible show wpAny _ _ (call (Value.ref 154) _) _ _ _); k_dflt (refine' draw_ok ?BZZ ?FZZ ?XZZ ?NZZ ?TZZ ?hkZZ ?m1ZZ ?m2ZZ ?hWZZ ?UZZ ?hqZZ ?ivZZ ?hnZZ ?hvZZ ?hz0ZZ ?hz1ZZ ?hdZZ ?huZZ ?_; (case BZZ => k_asm); (case FZZ => k_asm); (case XZZ => k_asm); (case NZZ => k_asm); (case TZZ => k_asm); (case hkZZ => first | exact rfl | assumption); (case m1ZZ => k_mem); (case m2ZZ => k_mem); (case hWZZ => assumption); (case UZZ => intro o'Z; k_upd); (case hqZZ => assumption); (case ivZZ => assumption); (case hnZZ => assumption); (case hvZZ => assumption); (case hz0ZZ => omega); (case hz1ZZ => omega); (case hdZZ => ktr_room); (case huZZ => ktr_units)); intro r9Z t9Z o9Z h'Z tk'Z hr0Z hr1Z hW'Z F'Z N'Z; (try dsimp only)) | (with_reducible (k_here; (with_reducible show wpAny _ _ (call (Value.ref 86) _) _ _ _); k_dflt (refine' bloom_octets_ok ?BZZ ?FZZ ?XZZ ?NZZ ?TZZ ?hkZZ ?hb0ZZ ?hb1ZZ ?hltZZ ?hdZZ ?huZZ ?_; (case BZZ => k_asm); (case FZZ => k_asm); (case XZZ => k_asm); (case NZZ => k_asm); (case TZZ => k_asm); (case hkZZ => first | exact rfl | assumption); (case hb0ZZ => assumption); (case hb1ZZ => assumption); (case hltZZ => assumption); (case hdZZ => ktr_room); (case huZZ => ktr_units)); intro r9Z t9Z h'Z tk'Z hr9Z F'Z N'Z; (try dsimp only))) | (k_here; (with_reducible show wpAny _ _ (call (Value.ref 86) _) _ _ _); k_dflt (refine' bloom_octets_ok ?BZZ ?FZZ ?XZZ ?NZZ ?TZZ ?hkZZ ?hb0ZZ ?hb1ZZ ?hltZZ ?hdZZ ?huZZ ?_; (case BZZ => k_asm); (case FZZ => k_asm); (case XZZ => k_asm); (case NZZ => k_asm); (case TZZ => k_asm); (case hkZZ => first | exact rfl | assumption); (case hb0ZZ => assumption); (case hb1ZZ => assumption); (case hltZZ => assumption); (case hdZZ => ktr_room); (case huZZ => ktr_units)); intro r9Z t9Z h'Z tk'Z hr9Z F'Z N'Z; (try dsimp only)) | (k_unfold; (try dsimp only)) | (k_end; kc_close) | walk1 | (dsimp only; walk1) | (leave1; (try dsimp only)) | fail "no step")
  · rename bne _ _ = true => hne
    refine absurd ?_ (bne_iff_ne.mp hne)
    exact congrArg Array.toList (bytes_ne (by assumption) (by assumption))
  all_goals exact hQ _ _ _ (by assumption)
end
section
open PySem.Calls
section
variable {prog : Program} {w : World} {A : Around} {E : Value → Shared → Prop} {s : Shared} {h₀ : Heap} {L l : Addr} {m : PySem.Str → Option Value} {news : List (Addr × Obj)} {Q : Value → Shared → Prop} {bits : Int}
theorem noughts (F : Fr h₀ L s.heap m) (N : News h₀ L s.heap news) {t u : Tok} {n : Nat} (hm : (l, listOf #[Value.int 0 t] n) ∈ news) (hb : bits ≤ 11)
    (h : ∀ D rv h', IntsAre rv (octs (wide bits) 0) → Fr h₀ L h' m → News h₀ L h' ((D, listOf rv.toArray 0) :: news) → (∀ p ∈ news, p.1 < D) → Q (.ref D) { s with heap := h' }) : wpAny (model prog w) A (binaryOp .Mult (.ref l) (.int (Int.fdiv (2 ^ bits.toNat) 8) u)) Q E s := by
  have e : Int.fdiv (2 ^ bits.toNat) 8 = (wide bits : Int) := by rw [← wide_val, Int.one_mul]
  have hw := wide_le hb
  rw [e]
  refine KMa.mul F N (vs := [Value.int 0 t]) (PySem.IsL.isList (n := n) (N _ hm).1) (by omega) (by omega) (by simpa using hw) rfl fun D h' F' N' hD => h D _ h' ?_ F' N' hD
  rw [Int.toNat_natCast]
  have e2 : octs (wide bits) 0 = (List.replicate (wide bits) [(0 : Int)]).flatten := by
    unfold octs
    refine List.ext_getElem (by simp) fun i h1 h2 => ?_
    have e3 : (List.replicate (wide bits) [(0 : Int)]).flatten = List.replicate (wide bits) 0 := by
      generalize wide bits = k
      induction k with
      | zero => rfl
      | succ k ih => rw [List.replicate_succ, List.flatten_cons, ih]; rfl
    simp [e3]
  rw [e2]
  generalize wide bits = k
  induction k with
  | zero => exact .nil
  | succ k ih => rw [List.replicate_succ, List.flatten_cons, List.replicate_succ, List.flatten_cons]; exact IntsAre.cons 0 t ih
end
section
variable {prog : Program} {w : World} {A : Around} {E : Value → Shared → Prop} {s : Shared} {h₀ : Heap} {L l : Addr} {m : PySem.Str → Option Value} {news : List (Addr × Obj)} {news'' : Obj → List (Addr × Obj)} {rv : List Value} {k nr n p : Nat}
theorem row_len {Q : Value → Shared → Prop} (N : News h₀ L s.heap news) (hm : (l, listOf rv.toArray nr) ∈ news) (ir : IntsAre rv (octs k n)) (hk : k ≤ 300) (h : ∀ t tk, Q (.int (k : Nat) t) { s with toks := tk }) : wpAny (model prog w) A (call (.builtin "len") [.ref l]) Q E s := by
  have e : rv.length = k := by rw [ir.length, octs_length]
  refine len_list (PySem.IsL.isList (n := nr) (N _ hm).1) (by simp only [List.size_toArray]; omega) ?_
  simp only [List.size_toArray, e]
  exact h _ _
theorem row_at {k p : Nat} (hp : p < 8 * k) : (0 : Int) ≤ (k : Int) - 1 - Int.fdiv (p : Int) 8 ∧ (k : Int) - 1 - Int.fdiv (p : Int) 8 < (k : Int) ∧ ((k : Int) - 1 - Int.fdiv (p : Int) 8).toNat = k - 1 - p / 8 := by
  rw [Int.fdiv_eq_ediv_of_nonneg _ (by decide)]
  omega
theorem row_sub {value slice : PySem.Expr} {Q : Value → Shared → Prop} {u : Tok} (N : News h₀ L s.heap news) (hm : (l, listOf rv.toArray nr) ∈ news) (ir : IntsAre rv (octs k n)) (hk : k ≤ 300) (hp : p < 8 * k) (h : ∀ t, Q (.int ((octs k n).getD (k - 1 - p / 8) 0) t) s)
    (hs : subscripted slice false (.ref l) (.int ((k : Int) - 1 - Int.fdiv (p : Int) 8) u) = operate [.ref l, .int ((k : Int) - 1 - Int.fdiv (p : Int) 8) u] (getItem (.ref l) (.int ((k : Int) - 1 - Int.fdiv (p : Int) 8) u)) := by with_unfolding_all rfl) :
    wpAny (model prog w) A (subscriptTail value slice (.ref l) (.int ((k : Int) - 1 - Int.fdiv (p : Int) 8) u)) Q E s := by
  obtain ⟨a, b, c⟩ := row_at hp
  refine ksa_sub N hm ir a (by rw [octs_length]; exact b) (by omega) (fun t => ?_) hs
  rw [c]
  exact h t
theorem pow_mod8 {Q : Value → Shared → Prop} {t u : Tok} (h : Q (.int ((2 ^ (p % 8) : Nat) : Int) s.toks) { s with toks := s.toks + 1 }) : wpAny (model prog w) A (binaryOp .Pow (.int 2 t) (.int (Int.fmod (p : Int) 8) u)) Q E s := by
  have e : Int.fmod (p : Int) 8 = ((p % 8 : Nat) : Int) := by rw [Int.fmod_eq_emod_of_nonneg _ (by decide)]; rfl
  rw [e]
  refine pow_int_small (by omega) (by omega) (by decide) ?_
  rw [Int.toNat_natCast]
  have e2 : (2 : Int) ^ (p % 8) = ((2 ^ (p % 8) : Nat) : Int) := by rw [Int.natCast_pow]; rfl
  rw [e2]
  exact h
theorem row_set {Q : Unit → Shared → Prop} {t u : Tok} (F : Fr h₀ L s.heap m) (N : News h₀ L s.heap news) (hm : (l, listOf rv.toArray nr) ∈ news) (ir : IntsAre rv (octs k n)) (hk : k ≤ 300) (hp : p < 8 * k) (hb : n.testBit p = false)
    (U : ∀ o', Upd l (listOf rv.toArray nr) o' news (news'' o'))
    (h : ∀ rv' h', IntsAre rv' (octs k (n ||| 2 ^ p : Nat)) → Fr h₀ L h' m → News h₀ L h' (news'' (listOf rv'.toArray nr)) → Q () { s with heap := h' }) :
    wpAny (model prog w) A (setItem (.ref l) (.int ((k : Int) - 1 - Int.fdiv (p : Int) 8) t) (.int ((octs k n).getD (k - 1 - p / 8) 0 + ((2 ^ (p % 8) : Nat) : Int)) u)) Q E s := by
  obtain ⟨a, b, c⟩ := row_at hp
  refine ksa_set F N (U _) ir a (by rw [octs_length]; exact b) (by omega) fun h' F' N' i' _ _ => ?_
  rw [c, octs_bit hp hb] at i'
  rw [c] at N'
  exact h _ h' i' F' N'
end
theorem on_at {w : World} {sp : List Nat} {kvs : List (Int × Value)} {i : Nat} {k : Int} {y v : Value} (hf : PyProof.V.FlatPairs PyData.int kvs (onD sp)) (hk : kvs[i]? = some (k, y)) (hv : (PySem.intKind PySem.Challenge.rw_pq0387_01.row.prog w).is k v = true) : ∃ (p : Nat) (t : Tok), sp[i]? = some p ∧ v = .int (p : Int) t := by
  obtain ⟨dv, hd, _⟩ := hf.at hk
  obtain ⟨t, rfl⟩ := Value.isInt_shape hv
  simp only [onD, List.getElem?_map] at hd
  cases hp : sp[i]? with
  | none => rw [hp] at hd; cases hd
  | some p =>
    rw [hp] at hd
    simp only [Option.map_some, Option.some.injEq, Prod.mk.injEq, PyData.int.injEq] at hd
    exact ⟨p, t, rfl, by rw [hd.1]⟩
/-- a frame whose one name is not known -/
def frq (x : Str) (qs : Option Value) (m : Str → Option Value) : Str → Option Value := fun z => if z = x then qs else m z
theorem list_named {h₀ h : Heap} {L D : Addr} {rv : List Value} {n : Nat} {rest : List (Addr × Obj)} (N : News h₀ L h ((D, listOf rv.toArray n) :: rest)) : ∃ (D' : Addr) (rv' : List Value), D' = D ∧ rv' = rv := ⟨D, rv, rfl, rfl⟩
theorem frq_self (x : Str) (m : Str → Option Value) : m = frq x (m x) m := by
  funext z
  unfold frq
  by_cases h : z = x
  · rw [if_pos h, h]
  · rw [if_neg h]
theorem frq_again (x : Str) (v qs : Option Value) (m : Str → Option Value) : (fun z => if z = x then v else frq x qs m z) = frq x v m := by
  funext z
  unfold frq
  by_cases h : z = x
  · rw [if_pos h, if_pos h]
  · rw [if_neg h, if_neg h, if_neg h]
theorem wide8 {bits : Int} {p : Nat} (h : 3 ≤ bits) (hp : p < 2 ^ bits.toNat) : p < 8 * wide bits := by
  unfold wide
  obtain ⟨k, hk⟩ : ∃ k : Nat, bits.toNat = k + 3 := ⟨bits.toNat - 3, by omega⟩
  have e : (2 : Nat) ^ 3 = 8 := by decide
  rw [hk, Nat.pow_add, e] at hp ⊢
  rw [Nat.mul_div_cancel _ (by decide)]
  omega
theorem off_before {sp : List Nat} {i p : Nat} (hnd : sp.Nodup) (hp : sp[i]? = some p) : (orAll 0 (sp.take i)).testBit p = false := by
  rw [orAll_bit, Nat.zero_testBit, Bool.false_or]
  refine decide_eq_false fun hm => ?_
  obtain ⟨j, hj, e⟩ := List.mem_take_iff_getElem.mp hm
  obtain ⟨hi, e2⟩ := List.getElem?_eq_some_iff.mp hp
  have := (List.getElem_inj (h₀ := by omega) (h₁ := hi) hnd).mp (e.trans e2.symm)
  omega
set_option maxRecDepth 100000 in
set_option maxHeartbeats 8000000 in
theorem seg12 {oc : Obj} {w : World} {mean : ExcName → Option Value} {mg mb : Str → Option Value} {dp un : Nat} {gd : Option (List Code)} {fa : Addr} {cd : Value} {A₀ : Around} {base h₀ : Heap} {L : Addr} {m : Str → Option Value} {s : Shared} {Q : Flow → Shared → Prop} {wl q od : Addr} {vs : List Value} {ns : List Int} {nq : Nat} {ow oon : Obj} {bits : Int} {due : Nat} {sp : List Nat} {tb td : Tok}
    (B : Below A₀ base [] h₀) (F : Fr h₀ L s.heap m) (X : (Mine.hd.heap_39 w.params).In h₀) (XB : (Mine.hd.heap_39 w.params).In base) (T : Top hd.view_39 (looseW hd.view_39 [Str.ofString "WORD", Str.ofString "LEAST_ADDRESS"]) mean mg mb h₀) (TB : Top hd.view_39 (looseW hd.view_39 [Str.ofString "WORD", Str.ofString "LEAST_ADDRESS"]) mean mg mb base) (N : News h₀ L s.heap [(wl, ow), (q, listOf vs.toArray nq), (od, oon), (L + 1, oc)])
    (n1 : q ≠ wl) (n2 : od ≠ wl) (n3 : od ≠ q) (hW : IsWell q ns ow) (iv : IntsAre vs ns) (hn : ns.length ≤ 60) (hv : ∀ v ∈ ns, 0 ≤ v ∧ v < 2147483647)
    (hb0 : 3 ≤ bits) (hb1 : bits ≤ 11) (hs : (od == sysModules) = false) (hon : IsOn w oon sp) (hnd : sp.Nodup) (hlt : ∀ p ∈ sp, p < 2 ^ bits.toNat) (hdue : due = orAll 0 sp)
    (v1 : m (Str.ofString "well") = some (.ref wl)) (v2 : m (Str.ofString "bits") = some (.int bits tb)) (v3 : m (Str.ofString "due") = some (.int (due : Int) td))
    (hoc : oc.data = .cell (some (.ref od))) (hQ : ∀ h' tk' m', Fr h₀ L h' m' → Q (.ret (.bool true)) { s with heap := h', toks := tk' }) (hd : dp + 60 < recursionLimit) (hu : un + 600 < cLine) : wpAny (model PySem.Challenge.rw_pq0387_01.row.prog w) (ktrTop dp un gd (Str.ofString "law") (lawScope w.params) L fa cd [(Str.ofString "on", L + 1)] []) (execs (lawTail w.params 12) (envX (Str.ofString "law") (lawScope w.params) L fa cd [(Str.ofString "on", L + 1)])) Q (fun _ _ => False) s := by
  w_top off
  replace F := frSees F (.cons v1 (.cons v2 (.cons v3 (.nil))))
  simp only [ovr] at F
  clear v1 v2 v3
  with_unfolding_all (show wpAny _ (ktrTop _ _ _ _ ⟨_, _, _, _, _⟩ _ _ _ _ _) (execs (_ :: _) (envX _ ⟨_, _, _, _, _⟩ _ _ _ _)) _ _ _)
  revert X; k_fill; intro X
  repeat' (first | (with_reducible (k_here; (with_reducible show wpAny _ _ (setItem (Value.ref _) (Value.int _ _) (Value.int _ _)) _ _ _); k_dflt (refine' row_set ?k0ZZ ?k1ZZ ?k2ZZ ?k3ZZ ?k4ZZ ?k5ZZ ?k6ZZ ?k7ZZ ?_; (case k0ZZ => k_asm); (case k1ZZ => k_asm); (case k2ZZ => k_mem); (case k3ZZ => with_reducible assumption); (case k4ZZ => with_reducible assumption); (case k5ZZ => with_reducible assumption); (case k6ZZ => with_reducible assumption); (case k7ZZ => intro o'Z; k_upd)); intro rv9Z h9Z ir9Z F9Z N9Z)) | (k_here; (with_reducible show wpAny _ _ (setItem (Value.ref _) (Value.int _ _) (Value.int _ _)) _ _ _); k_dflt (refine' row_set ?k0ZZ ?k1ZZ ?k2ZZ ?k3ZZ ?k4ZZ ?k5ZZ ?k6ZZ ?k7ZZ ?_; (case k0ZZ => k_asm); (case k1ZZ => k_asm); (case k2ZZ => k_mem); (case k3ZZ => with_reducible assumption); (case k4ZZ => with_reducible assumption); (case k5ZZ => with_reducible assumption); (case k6ZZ => with_reducible assumption); (case k7ZZ => intro o'Z; k_upd)); intro rv9Z h9Z ir9Z F9Z N9Z) | (with_reducible (k_here; (with_reducible show wpAny _ _ (subscriptTail (Expr.Name _ _) (Expr.BinOp _ _ _ _) (Value.ref _) (Value.int _ _)) _ _ _); k_dflt (refine' row_sub ?k1ZZ ?k2ZZ ?k3ZZ ?k4ZZ ?k5ZZ ?_; (case k1ZZ => k_asm); (case k2ZZ => k_mem); (case k3ZZ => with_reducible assumption); (case k4ZZ => with_reducible assumption); (case k5ZZ => with_reducible assumption)); intro t9Z)) | (k_here; (with_reducible show wpAny _ _ (subscriptTail (Expr.Name _ _) (Expr.BinOp _ _ _ _) (Value.ref _) (Value.int _ _)) _ _ _); k_dflt (refine' row_sub ?k1ZZ ?k2ZZ ?k3ZZ ?k4ZZ ?k5ZZ ?_; (case k1ZZ => k_asm); (case k2ZZ => k_mem); (case k3ZZ => with_reducible assumption); (case k4ZZ => with_reducible assumption); (case k5ZZ => with_reducible assumption)); intro t9Z) | (with_reducible (k_here; (with_reducible show wpAny _ _ (call (Value.builtin "len") _) _ _ _); k_dflt (refine' row_len ?k1ZZ ?k2ZZ ?k3ZZ ?k4ZZ ?_; (case k1ZZ => k_asm); (case k2ZZ => k_mem); (case k3ZZ => with_reducible assumption); (case k4ZZ => with_reducible assumption)); intro t9Z k9Z)) | (k_here; (with_reducible show wpAny _ _ (call (Value.builtin "len") _) _ _ _); k_dflt (refine' row_len ?k1ZZ ?k2ZZ ?k3ZZ ?k4ZZ ?_; (case k1ZZ => k_asm); (case k2ZZ => k_mem); (case k3ZZ => with_reducible assumption); (case k4ZZ => with_reducible assumption)); intro t9Z k9Z) | (with_reducible (k_here; (with_reducible show wpAny _ _ (binaryOp Operator.Pow (Value.int _ _) (Value.int _ _)) _ _ _); (with_reducible refine pow_mod8 ?_))) | (with_reducible (k_here; (with_reducible show wpAny _ _ (eval (Expr.Name (Str.ofString "on") _) _) _ _ _); (with_reducible rename News _ _ _ _ => N'Z); k_dflt (refine' nameX_C N'Z ?c9ZZ ?m9ZZ ?d9ZZ ?_; (case c9ZZ => rfl); (case m9ZZ => k_mem); (case d9ZZ => with_reducible assumption)))) | (k_here; (with_reducible show wpAny _ _ (eval (Expr.Name (Str.ofString "on") _) _) _ _ _); (with_reducible rename News _ _ _ _ => N'Z); k_dflt (refine' nameX_C N'Z ?c9ZZ ?m9ZZ ?d9ZZ ?_; (case c9ZZ => rfl); (case m9ZZ => k_mem); (case d9ZZ => with_reducible assumption))) | (with_reducible (k_here; (with_reducible show wpAny _ _ (exec (Stmt.For (Expr.Name _ _) (Expr.Name _ _) _ _ _) _) _ _ _); (rename Fr _ _ _ _ => lF'Z); (with_unfolding_all refine' For_invVF lF'Z ?k1ZZ ?k2ZZ ?_; (case k1ZZ => exact rfl); (case k2ZZ => exact rfl); k_whole))) | (k_here; (with_reducible show wpAny _ _ (exec (Stmt.For (Expr.Name _ _) (Expr.Name _ _) _ _ _) _) _ _ _); (rename Fr _ _ _ _ => lF'Z); (with_unfolding_all refine' For_invVF lF'Z ?k1ZZ ?k2ZZ ?_; (case k1ZZ => exact rfl); (case k2ZZ => exact rfl); k_whole)) | (with_reducible (k_here; (with_reducible show wpAny _ _ (binaryOp Operator.Mult (Value.ref _) (Value.int _ _)) _ _ _); k_dflt (refine' noughts ?FZZ ?NZZ ?mZZ ?bZZ ?_; (case FZZ => k_asm); (case NZZ => k_asm); (case mZZ => k_mem); (case bZZ => with_reducible assumption)); intro D'Z rv'Z h'Z hrv'Z F'Z N'Z l1Z; (try k_lt l1Z))) | (k_here; (with_reducible show wpAny _ _ (binaryOp Operator.Mult (Value.ref _) (Value.int _ _)) _ _ _); k_dflt (refine' noughts ?FZZ ?NZZ ?mZZ ?bZZ ?_; (case FZZ => k_asm); (case NZZ => k_asm); (case mZZ => k_mem); (case bZZ => with_reducible assumption)); intro D'Z rv'Z h'Z hrv'Z F'Z N'Z l1Z; (try k_lt l1Z)) | (with_reducible (k_here; (with_reducible show wpAny _ _ (binaryOp Operator.Mod (Value.int _ _) (Value.int _ _)) _ _ _); (with_reducible refine modLit (by decide) ?_))) | (with_reducible (k_here; (with_reducible show wpAny _ _ (binaryOp Operator.FloorDiv (Value.int _ _) (Value.int _ _)) _ _ _); (with_reducible refine fd8 ?_))) | (with_reducible (k_here; (with_reducible show wpAny _ _ (binaryOp Operator.Pow (Value.int _ _) (Value.int _ _)) _ _ _); first | (with_reducible refine powBits (by with_reducible assumption) (by with_reducible assumption) ?_))) | (with_reducible (k_here; (with_reducible show wpAny _ _ (pyIter (Value.ref _)) _ _ _); refine halt ?_)) | (k_unfold; (try dsimp only)) | (k_end; kc_close) | walk1 | (dsimp only; walk1) | (leave1; (try dsimp only)) | fail "no step")
  refine (?_ : wpAny _ _ _ _ _ _)
  rename News h₀ L _ _ => N1
  rename IntsAre _ (octs _ _) => hr1
  obtain ⟨kvs, hdo, hf⟩ := hon
  obtain ⟨ep, hat⟩ := (Heap.dictOf_iff.mpr ⟨oon, (N1 (od, oon) (by k_mem)).1, hdo⟩).dictAt
  rename Fr _ _ _ _ => F1
  rename _ < _ ∧ _ => l1
  obtain ⟨D', rv', rfl, rfl⟩ := list_named N1
  have N2 : News h₀ L _ [(D', listOf rv'.toArray 0), (wl, ow), (q, listOf vs.toArray nq), (od, oon), (L + 1, oc)] := cb_drop N1 (by kst_allIn)
  have nD : D' ≠ wl := Nat.ne_of_gt l1.2.1
  have hLd : od ≠ L := (N2 (od, oon) (by k_mem)).2.1
  refine' iterD (lo := oon) (fun i m nx => ∃ (rv : List Value) (nr : Nat) (qs : Option Value), IntsAre rv (octs (wide bits) (orAll 0 (sp.take i) : Nat)) ∧ nx = [(D', listOf rv.toArray nr), (wl, ow), (q, listOf vs.toArray nq), (od, oon), (L + 1, oc)] ∧ m = frq (Str.ofString "spot") qs _)
    ?hh hs hat ?hl (Ne.symm hLd) F1 N2 ⟨_, _, _, hr1, rfl, frq_self _ _⟩ ?_ ?_
  case hh => with_unfolding_all rfl
  case hl => exact .inr fun i m nx => by rintro ⟨rv, nr, qs, _, rfl, _⟩; k_mem
  · rintro i v k y m₁ news₁ h tk I oI hk hv' ⟨rv, nr, qs, hr, rfl, rfl⟩ hoI F2 N2
    obtain ⟨p, t, hp, rfl⟩ := on_at hf hk hv'
    change Fr h₀ L h _ at F2
    change News h₀ L h _ at N2
    unfold frq at F2
    simp only [List.forall_mem_cons, List.not_mem_nil, false_implies, implies_true, and_true] at hoI
    have hoI' := hoI
    obtain ⟨oI0, oI1, oI2, oI3, oI4⟩ := hoI'
    have oJ0 := Ne.symm oI0
    have hpm := List.mem_of_getElem? hp
    have hp8 : p < 8 * wide bits := wide8 hb0 (hlt p hpm)
    have hnb : (orAll 0 (sp.take i)).testBit p = false := off_before hnd hp
    have hw300 : wide bits ≤ 300 := Nat.le_trans (wide_le hb1) (by decide)
    repeat' (first | (with_reducible (k_here; (with_reducible show wpAny _ _ (setItem (Value.ref _) (Value.int _ _) (Value.int _ _)) _ _ _); k_dflt (refine' row_set ?k0ZZ ?k1ZZ ?k2ZZ ?k3ZZ ?k4ZZ ?k5ZZ ?k6ZZ ?k7ZZ ?_; (case k0ZZ => k_asm); (case k1ZZ => k_asm); (case k2ZZ => k_mem); (case k3ZZ => with_reducible assumption); (case k4ZZ => with_reducible assumption); (case k5ZZ => with_reducible assumption); (case k6ZZ => with_reducible assumption); (case k7ZZ => intro o'Z; k_upd)); intro rv9Z h9Z ir9Z F9Z N9Z)) | (k_here; (with_reducible show wpAny _ _ (setItem (Value.ref _) (Value.int _ _) (Value.int _ _)) _ _ _); k_dflt (refine' row_set ?k0ZZ ?k1ZZ ?k2ZZ ?k3ZZ ?k4ZZ ?k5ZZ ?k6ZZ ?k7ZZ ?_; (case k0ZZ => k_asm); (case k1ZZ => k_asm); (case k2ZZ => k_mem); (case k3ZZ => with_reducible assumption); (case k4ZZ => with_reducible assumption); (case k5ZZ => with_reducible assumption); (case k6ZZ => with_reducible assumption); (case k7ZZ => intro o'Z; k_upd)); intro rv9Z h9Z ir9Z F9Z N9Z) | (with_reducible (k_here; (with_reducible show wpAny _ _ (subscriptTail (Expr.Name _ _) (Expr.BinOp _ _ _ _) (Value.ref _) (Value.int _ _)) _ _ _); k_dflt (refine' row_sub ?k1ZZ ?k2ZZ ?k3ZZ ?k4ZZ ?k5ZZ ?_; (case k1ZZ => k_asm); (case k2ZZ => k_mem); (case k3ZZ => with_reducible assumption); (case k4ZZ => with_reducible assumption); (case k5ZZ => with_reducible assumption)); intro t9Z)) | (k_here; (with_reducible show wpAny _ _ (subscriptTail (Expr.Name _ _) (Expr.BinOp _ _ _ _) (Value.ref _) (Value.int _ _)) _ _ _); k_dflt (refine' row_sub ?k1ZZ ?k2ZZ ?k3ZZ ?k4ZZ ?k5ZZ ?_; (case k1ZZ => k_asm); (case k2ZZ => k_mem); (case k3ZZ => with_reducible assumption); (case k4ZZ => with_reducible assumption); (case k5ZZ => with_reducible assumption)); intro t9Z) | (with_reducible (k_here; (with_reducible show wpAny _ _ (call (Value.builtin "len") _) _ _ _); k_dflt (refine' row_len ?k1ZZ ?k2ZZ ?k3ZZ ?k4ZZ ?_; (case k1ZZ => k_asm); (case k2ZZ => k_mem); (case k3ZZ => with_reducible assumption); (case k4ZZ => with_reducible assumption)); intro t9Z k9Z)) | (k_here; (with_reducible show wpAny _ _ (call (Value.builtin "len") _) _ _ _); k_dflt (refine' row_len ?k1ZZ ?k2ZZ ?k3ZZ ?k4ZZ ?_; (case k1ZZ => k_asm); (case k2ZZ => k_mem); (case k3ZZ => with_reducible assumption); (case k4ZZ => with_reducible assumption)); intro t9Z k9Z) | (with_reducible (k_here; (with_reducible show wpAny _ _ (binaryOp Operator.Pow (Value.int _ _) (Value.int _ _)) _ _ _); (with_reducible refine pow_mod8 ?_))) | (with_reducible (k_here; (with_reducible show wpAny _ _ (eval (Expr.Name (Str.ofString "on") _) _) _ _ _); (with_reducible rename News _ _ _ _ => N'Z); k_dflt (refine' nameX_C N'Z ?c9ZZ ?m9ZZ ?d9ZZ ?_; (case c9ZZ => rfl); (case m9ZZ => k_mem); (case d9ZZ => with_reducible assumption)))) | (k_here; (with_reducible show wpAny _ _ (eval (Expr.Name (Str.ofString "on") _) _) _ _ _); (with_reducible rename News _ _ _ _ => N'Z); k_dflt (refine' nameX_C N'Z ?c9ZZ ?m9ZZ ?d9ZZ ?_; (case c9ZZ => rfl); (case m9ZZ => k_mem); (case d9ZZ => with_reducible assumption))) | (with_reducible (k_here; (with_reducible show wpAny _ _ (exec (Stmt.For (Expr.Name _ _) (Expr.Name _ _) _ _ _) _) _ _ _); (rename Fr _ _ _ _ => lF'Z); (with_unfolding_all refine' For_invVF lF'Z ?k1ZZ ?k2ZZ ?_; (case k1ZZ => exact rfl); (case k2ZZ => exact rfl); k_whole))) | (k_here; (with_reducible show wpAny _ _ (exec (Stmt.For (Expr.Name _ _) (Expr.Name _ _) _ _ _) _) _ _ _); (rename Fr _ _ _ _ => lF'Z); (with_unfolding_all refine' For_invVF lF'Z ?k1ZZ ?k2ZZ ?_; (case k1ZZ => exact rfl); (case k2ZZ => exact rfl); k_whole)) | (with_reducible (k_here; (with_reducible show wpAny _ _ (binaryOp Operator.Mult (Value.ref _) (Value.int _ _)) _ _ _); k_dflt (refine' noughts ?FZZ ?NZZ ?mZZ ?bZZ ?_; (case FZZ => k_asm); (case NZZ => k_asm); (case mZZ => k_mem); (case bZZ => with_reducible assumption)); intro D'Z rv'Z h'Z hrv'Z F'Z N'Z l1Z; (try k_lt l1Z))) | (k_here; (with_reducible show wpAny _ _ (binaryOp Operator.Mult (Value.ref _) (Value.int _ _)) _ _ _); k_dflt (refine' noughts ?FZZ ?NZZ ?mZZ ?bZZ ?_; (case FZZ => k_asm); (case NZZ => k_asm); (case mZZ => k_mem); (case bZZ => with_reducible assumption)); intro D'Z rv'Z h'Z hrv'Z F'Z N'Z l1Z; (try k_lt l1Z)) | (with_reducible (k_here; (with_reducible show wpAny _ _ (binaryOp Operator.Mod (Value.int _ _) (Value.int _ _)) _ _ _); (with_reducible refine modLit (by decide) ?_))) | (with_reducible (k_here; (with_reducible show wpAny _ _ (binaryOp Operator.FloorDiv (Value.int _ _) (Value.int _ _)) _ _ _); (with_reducible refine fd8 ?_))) | (with_reducible (k_here; (with_reducible show wpAny _ _ (binaryOp Operator.Pow (Value.int _ _) (Value.int _ _)) _ _ _); first | (with_reducible refine powBits (by with_reducible assumption) (by with_reducible assumption) ?_))) | (with_reducible (k_here; (with_reducible show wpAny _ _ (pyIter (Value.ref _)) _ _ _); refine halt ?_)) | (k_unfold; (try dsimp only)) | (k_end; kc_close) | walk1 | (dsimp only; walk1) | (leave1; (try dsimp only)) | fail "no step")
    show EndG _ _ _ _ _ _ _
    rename Fr h₀ L _ _ => F3
    rename IntsAre _ (octs _ (orAll _ _ ||| _ : Nat)) => hr3
    rename News h₀ L _ _ => N3
    refine EndG.intro F3 N3 (by k_mem) (by k_allIn) (nx := [(D', listOf _ nr), (wl, ow), (q, listOf vs.toArray nq), (od, oon), (L + 1, oc)]) ?_ ⟨_, nr, _, ?_, rfl, frq_again _ _ _ _⟩
    · simp only [List.forall_mem_cons, List.not_mem_nil, false_implies, implies_true, and_true]
      exact hoI
    · rw [List.take_add_one, hp]
      show IntsAre _ (octs _ (orAll 0 (sp.take i ++ [p]) : Nat))
      rw [orAll_snoc]
      exact hr3
  · rintro m₁ news₁ h3 tk3 ⟨rv, nr, qs, hr, rfl, rfl⟩ F6 N6
    change Fr h₀ L h3 _ at F6
    change News h₀ L h3 _ at N6
    rw [← hf.length, show (onD sp).length = sp.length from List.length_map .., List.take_length, ← hdue] at hr
    have hlt2 : due < 2 ^ 2 ^ bits.toNat := hdue ▸ orAll_lt hlt
    refine seg14 (s := { s with heap := h3, toks := tk3 }) (tb := tb) (td := td) B F6 X XB T TB (cb_drop N6 (by kst_allIn)) n1 ?h1 hW iv hn hv hb0 hb1 hlt2 hr ?h2 ?h3 ?h4 ?h5 hQ hd hu
    case h1 => exact nD
    case h2 => with_unfolding_all rfl
    case h3 => with_unfolding_all rfl
    case h4 => with_unfolding_all rfl
    case h5 => with_unfolding_all rfl
end
section
open PySem.Calls
/-- values that are octets, and what they hold -/
inductive BytesAre : List Value → List (List Int) → Prop
  | nil : BytesAre [] []
  | cons {b : Array UInt8} {bs : List Int} {vs : List Value} {bss : List (List Int)} (t : Tok) : KBw.bInts b = bs → BytesAre vs bss → BytesAre (.bytes b t :: vs) (bs :: bss)
theorem BytesAre.length : ∀ {vs : List Value} {bss : List (List Int)}, BytesAre vs bss → vs.length = bss.length
  | _, _, .nil => rfl
  | _, _, .cons _ _ r => congrArg (· + 1) r.length
theorem BytesAre.append : ∀ {vs ws : List Value} {bss css : List (List Int)}, BytesAre vs bss → BytesAre ws css → BytesAre (vs ++ ws) (bss ++ css)
  | _, _, _, _, .nil, h => h
  | _, _, _, _, .cons t e r, h => .cons t e (r.append h)
theorem BytesAre.at : ∀ {vs : List Value} {bss : List (List Int)}, BytesAre vs bss → ∀ (i : Nat) (v : Value), vs[i]? = some v → ∃ (b : Array UInt8) (bs : List Int) (t : Tok), v = .bytes b t ∧ KBw.bInts b = bs ∧ bss[i]? = some bs
  | _, _, .nil, i, v, h => by simp at h
  | _, _, .cons t e r, 0, v, h => by
    simp only [List.getElem?_cons_zero, Option.some.injEq] at h
    exact ⟨_, _, t, h.symm, e, rfl⟩
  | _, _, .cons t e r, i + 1, v, h => by
    rw [List.getElem?_cons_succ] at h
    obtain ⟨b, bs, u, h1, h2, h3⟩ := r.at i v h
    exact ⟨b, bs, u, h1, h2, by rw [List.getElem?_cons_succ]; exact h3⟩
def isOct (b : Array UInt8) : Value → Bool
  | .bytes c _ => decide (c.toList = b.toList)
  | _ => false
theorem any_isOct {b : Array UInt8} {bs : List Int} (hb : KBw.bInts b = bs) : ∀ {vs : List Value} {bss : List (List Int)}, BytesAre vs bss → vs.any (isOct b) = decide (bs ∈ bss)
  | _, _, .nil => by simp
  | _, _, .cons (b := c) (bs := cs) t e r => by
    rw [List.any_cons, any_isOct hb r]
    have h1 : isOct b (.bytes c t) = decide (bs = cs) := by
      show decide (c.toList = b.toList) = _
      refine decide_eq_decide.mpr ⟨fun h => ?_, fun h => ?_⟩
      · rw [← hb, ← e]; unfold KBw.bInts; rw [h]
      · exact congrArg Array.toList (bytes_ne e (hb.trans h))
    rw [h1]
    simp [List.mem_cons]
section
variable {prog : Program} {w : World} {A : Around} {E : Value → Shared → Prop} {s : Shared} {h₀ : Heap} {L l k : Addr} {m : PySem.Str → Option Value} {news : List (Addr × Obj)} {vs ws : List Value} {n n' : Nat} {Q : Value → Shared → Prop}
theorem in_octets {b : Array UInt8} {bs : List Int} {bss : List (List Int)} {t : Tok} (N : News h₀ L s.heap news) (hm : (l, listOf vs.toArray n) ∈ news) (ha : BytesAre vs bss) (hb : KBw.bInts b = bs) (h : Q (.bool (decide (bs ∈ bss))) s) :
    wpAny (model prog w) A (compareOp .In (.bytes b t) (.ref l)) Q E s := by
  refine SeqInW.in_listW (isOct b) (fun y hy => ?_) (PySem.IsL.isList (n := n) (N _ hm).1) ?_
  · obtain ⟨i, hi⟩ := List.mem_iff_getElem?.mp (show y ∈ vs by simpa using hy)
    obtain ⟨c, cs, u, rfl, _, _⟩ := ha.at i y hi
    exact fun _ _ _ _ _ _ hq => eqBool_bytes hq
  · rw [← Array.any_toList, show vs.toArray.toList = vs from rfl, any_isOct hb ha]
    exact h
theorem add_refs (F : Fr h₀ L s.heap m) (N : News h₀ L s.heap news) (h1 : (l, listOf vs.toArray n) ∈ news) (h2 : (k, listOf ws.toArray n') ∈ news) (hz : vs.length + ws.length ≤ 100)
    (h : ∀ D h', Fr h₀ L h' m → News h₀ L h' ((D, listOf (vs ++ ws).toArray 0) :: news) → (∀ p ∈ news, p.1 < D) → Q (.ref D) { s with heap := h' }) : wpAny (model prog w) A (binaryOp .Add (.ref l) (.ref k)) Q E s :=
  add_lists (hsz := by rw [sizeLine_eq]; omega) F N (PySem.IsL.isList (n := n) (N _ h1).1) (PySem.IsL.isList (n := n') (N _ h2).1) fun h' F' N' => h _ h' F' N' fun p hp => Heap.lt_size (N p hp).1
theorem app_list {news' : Obj → List (Addr × Obj)} {v : Value} (F : Fr h₀ L s.heap m) (N : News h₀ L s.heap news) (hm : (l, listOf vs.toArray n) ∈ news) (U : ∀ o', Upd l (listOf vs.toArray n) o' news (news' o')) (hz : vs.length ≤ 1000)
    (h : ∀ h', Fr h₀ L h' m → News h₀ L h' (news' (listOf (vs ++ [v]).toArray (n + 1))) → Q .none { s with heap := h' }) : wpAny (model prog w) A (call (.builtin "list.append") [.ref l, v]) Q E s :=
  append_K F N (U _) (fun h' F' N' => h h' F' (by rw [show (vs ++ [v]).toArray = vs.toArray.push v by simp]; exact N')) (by rw [sizeLine_eq, List.size_toArray]; omega)
theorem BytesAre.snoc {vs : List Value} {bss : List (List Int)} {b : Array UInt8} {bs : List Int} (t : Tok) (h : BytesAre vs bss) (hb : KBw.bInts b = bs) : BytesAre (vs ++ [.bytes b t]) (bss ++ [bs]) := h.append (.cons t hb .nil)
end
end
section
open PySem.Calls
theorem nN {a b : Addr} (h : a ≠ b) : @Ne Nat a b := h
theorem le1000 {a b : Nat} (h : a ≤ b + 1) (g : b + 1 ≤ 1000) : a ≤ 1000 := Nat.le_trans h g
theorem fur_tidy {c c' : List (Int × Int)} (h : Further c c') : Tidy c' := h.1
theorem fr_named {h₀ h : Heap} {L : Addr} {m : Str → Option Value} (F : Fr h₀ L h m) : ∃ m0, m0 = m ∧ Fr h₀ L h m0 := ⟨m, rfl, F⟩
theorem frq2_self (x y : Str) (m : Str → Option Value) : m = frq x (m x) (frq y (m y) m) := (frq_self x m).trans (congrArg (frq x (m x)) (frq_self y m))
theorem frq2_again {x y : Str} (h : y ≠ x) (v u q1 q2 : Option Value) (m : Str → Option Value) : (fun z => if z = y then u else if z = x then v else if z = x then q1 else if z = y then q2 else m z) = frq x v (frq y u m) := by
  funext z
  unfold frq
  by_cases h1 : z = x
  · have h2 : z ≠ y := fun e => h (e.symm.trans h1)
    simp only [h1, if_true, if_neg (fun e => h (Eq.symm e) : ¬ x = y)]
  · by_cases h2 : z = y
    · simp [h2, h]
    · simp only [if_neg h1, if_neg h2]
noncomputable def isinE (P : Params) : PySem.Expr := match lawTail P 11 with
  | .For _ _ (.Assign _ (.Compare e _ _ _) _ :: _) _ _ :: _ => e
  | _ => default
theorem isin_leaf {zs : List Int} {p q r : Nat} {sp : List Nat} (h : zs = [] ↔ (p ∈ sp ∧ q ∈ sp ∧ r ∈ sp)) {l : List Nat} (e : l = [p, q, r]) : zs = [] ↔ ∀ p ∈ l, p ∈ sp := by
  rw [h, e]
  simp
set_option maxRecDepth 100000 in
set_option maxHeartbeats 1600000 in
theorem isin_ok {oc : Obj} {w : World} {mean : ExcName → Option Value} {mg mb : Str → Option Value} {dp un : Nat} {gd : Option (List Code)} {fa : Addr} {cd : Value} {A₀ : Around} {base h₀ : Heap} {L : Addr} {m : Str → Option Value} {s : Shared} {Q E : Value → Shared → Prop}
    {I D₀ wl q od x dx kd hl : Addr} {oI oD ow oq oon o oh : Obj} {nkd : Nat} {tkn : Tok} {c : List (Int × Int)} {b : Array UInt8} {bs : List Int} {bits : Int} {sp : List Nat} {tb t1 : Tok}
    (B : Below A₀ base [] h₀) (F : Fr h₀ L s.heap m) (X : (Mine.hd.heap_39 w.params).In h₀) (T : Top hd.view_39 (looseW hd.view_39 [Str.ofString "WORD", Str.ofString "LEAST_ADDRESS"]) mean mg mb h₀)
    (N : News h₀ L s.heap [(I, oI), (D₀, oD), (wl, ow), (q, oq), (od, oon), (L + 1, oc), (x, instObj 138 dx), (dx, dictOf [⟨PyData.keyHash w.params (Str.ofString "known"), .str (Str.ofString "known") tkn, .ref kd⟩] nkd), (kd, o), (hl, oh)])
    (n4 : x ≠ dx) (n5 : x ≠ kd) (n6 : dx ≠ kd) (k0 : @Ne Nat I kd) (k00 : @Ne Nat D₀ kd) (k1 : @Ne Nat wl kd) (k2 : @Ne Nat q kd) (k3 : @Ne Nat od kd) (k4 : @Ne Nat (L + 1) kd) (k5 : @Ne Nat hl kd) (hsk : (kd == sysModules) = false) (hD : Bears w o c) (hT : Tidy c) (hc : c.length ≤ 900)
    (hb : KBw.bInts b = bs) (hb40 : bs.length ≤ 40) (hb0 : 3 ≤ bits) (hb1 : bits ≤ 11) (hs : (od == sysModules) = false) (hon : IsOn w oon sp)
    (v2 : m (Str.ofString "bits") = some (.int bits tb)) (v4 : m (Str.ofString "digester") = some (.ref x)) (v5 : m (Str.ofString "one") = some (.bytes b t1)) (hoc : oc.data = .cell (some (.ref od))) (hd : dp + 60 < recursionLimit) (hu : un + 600 < cLine)
    (hret : ∀ D ys zs n o' c' h' tk', IntsAre ys zs → (zs = [] ↔ ∀ p ∈ spots (digOct n) bits, p ∈ sp) → Knows c' (keyOf bs) n → Further c c' → c'.length ≤ c.length + 1 → Bears w o' c' → Fr h₀ L h' m →
      News h₀ L h' [(D, LCg.lst ys), (I, oI), (D₀, oD), (wl, ow), (q, oq), (od, oon), (L + 1, oc), (x, instObj 138 dx), (dx, dictOf [⟨PyData.keyHash w.params (Str.ofString "known"), .str (Str.ofString "known") tkn, .ref kd⟩] nkd), (kd, o'), (hl, oh)] → @Ne Nat D kd → Q (.ref D) { s with heap := h', toks := tk' }) :
    wpAny (model PySem.Challenge.rw_pq0387_01.row.prog w) (ktrTop dp un gd (Str.ofString "law") (lawScope w.params) L fa cd [(Str.ofString "on", L + 1)] []) (eval (isinE w.params) (envX (Str.ofString "law") (lawScope w.params) L fa cd [(Str.ofString "on", L + 1)])) Q E s := by
  w_top off
  replace n5 := nN n5
  replace n6 := nN n6
  have hci : c.length ≤ 1000 := by omega
  have hci9 : c.length + 1 ≤ 1000 := by omega
  have hov := seen_ovr (.cons v2 (.cons v4 (.cons v5 .nil)))
  replace F := frSees F (.cons v2 (.cons v4 (.cons v5 (.nil))))
  simp only [ovr] at F
  clear v2 v4 v5
  with_unfolding_all (show wpAny _ (ktrTop _ _ _ _ ⟨_, _, _, _, _⟩ _ _ _ _ _) (eval (Expr.ListComp _ _ _ _) (envX _ ⟨_, _, _, _, _⟩ _ _ _ _)) _ _ _)
  revert X; k_fill; intro X
  repeat' (first | (with_reducible (k_here; (with_reducible show wpAny _ _ (call (Value.ref 79) _) _ _ _); k_dflt (refine' may_hold_ok ?BZZ ?FZZ ?XZZ ?NZZ ?TZZ ?hkZZ ?m1ZZ ?m2ZZ ?m3ZZ ?UZZ ?n1ZZ ?n2ZZ ?n3ZZ ?hsZZ ?hDZZ ?hTZZ ?hbZZ ?hblZZ ?hcZZ ?hb0ZZ ?hb1ZZ ?hdZZ ?huZZ ?_; (case BZZ => k_asm); (case FZZ => k_asm); (case XZZ => k_asm); (case NZZ => k_asm); (case TZZ => k_asm); (case hkZZ => first | exact rfl | assumption); (case m1ZZ => k_mem); (case m2ZZ => k_mem); (case m3ZZ => k_mem); (case UZZ => intro o'Z; k_upd); (case n1ZZ => assumption); (case n2ZZ => assumption); (case n3ZZ => assumption); (case hsZZ => assumption); (case hDZZ => assumption); (case hTZZ => assumption); (case hbZZ => assumption); (case hblZZ => assumption); (case hcZZ => assumption); (case hb0ZZ => assumption); (case hb1ZZ => assumption); (case hdZZ => ktr_room); (case huZZ => ktr_units)); intro nZ o'Z c'Z h'Z tk'Z hKnZ hFuZ hclZ hD'Z F'Z N'Z; (try dsimp only))) | (k_here; (with_reducible show wpAny _ _ (call (Value.ref 79) _) _ _ _); k_dflt (refine' may_hold_ok ?BZZ ?FZZ ?XZZ ?NZZ ?TZZ ?hkZZ ?m1ZZ ?m2ZZ ?m3ZZ ?UZZ ?n1ZZ ?n2ZZ ?n3ZZ ?hsZZ ?hDZZ ?hTZZ ?hbZZ ?hblZZ ?hcZZ ?hb0ZZ ?hb1ZZ ?hdZZ ?huZZ ?_; (case BZZ => k_asm); (case FZZ => k_asm); (case XZZ => k_asm); (case NZZ => k_asm); (case TZZ => k_asm); (case hkZZ => first | exact rfl | assumption); (case m1ZZ => k_mem); (case m2ZZ => k_mem); (case m3ZZ => k_mem); (case UZZ => intro o'Z; k_upd); (case n1ZZ => assumption); (case n2ZZ => assumption); (case n3ZZ => assumption); (case hsZZ => assumption); (case hDZZ => assumption); (case hTZZ => assumption); (case hbZZ => assumption); (case hblZZ => assumption); (case hcZZ => assumption); (case hb0ZZ => assumption); (case hb1ZZ => assumption); (case hdZZ => ktr_room); (case huZZ => ktr_units)); intro nZ o'Z c'Z h'Z tk'Z hKnZ hFuZ hclZ hD'Z F'Z N'Z; (try dsimp only)) | (with_reducible (k_here; (with_reducible show wpAny _ _ (call (Value.ref 171) _) _ _ _); k_dflt (refine' places_ok ?BZZ ?FZZ ?XZZ ?NZZ ?TZZ ?hkZZ ?hbZZ ?hksZZ ?hb0ZZ ?hb1ZZ ?hdZZ ?huZZ ?_; (case BZZ => k_asm); (case FZZ => k_asm); (case XZZ => k_asm); (case NZZ => k_asm); (case TZZ => k_asm); (case hkZZ => first | exact rfl | assumption); (case hbZZ => assumption); (case hksZZ => exact digOct_length _); (case hb0ZZ => assumption); (case hb1ZZ => assumption); (case hdZZ => ktr_room); (case huZZ => ktr_units)); intro lZ vsZ nlZ h'Z tk'Z hIZ hoffZ F'Z N'Z; (obtain ⟨p1Z, p2Z, p3Z, t1Z, t2Z, t3Z, hvsZ, hspZ, hp1Z, hp2Z, hp3Z⟩ := spots_inv hIZ (by with_reducible assumption)); (subst hvsZ); (clear hIZ); (try k_lt hoffZ); (try dsimp only))) | (k_here; (with_reducible show wpAny _ _ (call (Value.ref 171) _) _ _ _); k_dflt (refine' places_ok ?BZZ ?FZZ ?XZZ ?NZZ ?TZZ ?hkZZ ?hbZZ ?hksZZ ?hb0ZZ ?hb1ZZ ?hdZZ ?huZZ ?_; (case BZZ => k_asm); (case FZZ => k_asm); (case XZZ => k_asm); (case NZZ => k_asm); (case TZZ => k_asm); (case hkZZ => first | exact rfl | assumption); (case hbZZ => assumption); (case hksZZ => exact digOct_length _); (case hb0ZZ => assumption); (case hb1ZZ => assumption); (case hdZZ => ktr_room); (case huZZ => ktr_units)); intro lZ vsZ nlZ h'Z tk'Z hIZ hoffZ F'Z N'Z; (obtain ⟨p1Z, p2Z, p3Z, t1Z, t2Z, t3Z, hvsZ, hspZ, hp1Z, hp2Z, hp3Z⟩ := spots_inv hIZ (by with_reducible assumption)); (subst hvsZ); (clear hIZ); (try k_lt hoffZ); (try dsimp only)) | (with_reducible (k_here; (with_reducible show wpAny _ _ (call (Value.ref 135) _) _ _ _); k_dflt (refine' of_ok ?BZZ ?FZZ ?XZZ ?NZZ ?TZZ ?hkZZ ?m1ZZ ?m2ZZ ?m3ZZ ?UZZ ?n1ZZ ?n2ZZ ?n3ZZ ?hsZZ ?hbZZ ?hblZZ ?hDZZ ?hTZZ ?hcZZ ?hdZZ ?huZZ ?_; (case BZZ => k_asm); (case FZZ => k_asm); (case XZZ => k_asm); (case NZZ => k_asm); (case TZZ => k_asm); (case hkZZ => first | exact rfl | assumption); (case m1ZZ => k_mem); (case m2ZZ => k_mem); (case m3ZZ => k_mem); (case UZZ => intro o'Z; k_upd); (case n1ZZ => assumption); (case n2ZZ => assumption); (case n3ZZ => assumption); (case hsZZ => assumption); (case hbZZ => assumption); (case hblZZ => assumption); (case hDZZ => assumption); (case hTZZ => assumption); (case hcZZ => assumption); (case hdZZ => ktr_room); (case huZZ => ktr_units)); intro nZ rZ tZ o'Z c'Z h'Z tk'Z hKnZ hFuZ hclZ hD'Z hbrZ F'Z N'Z; (have hT9Z := fur_tidy hFuZ); (have hc9Z := le1000 hclZ (by with_reducible assumption)); (try dsimp only))) | (k_here; (with_reducible show wpAny _ _ (call (Value.ref 135) _) _ _ _); k_dflt (refine' of_ok ?BZZ ?FZZ ?XZZ ?NZZ ?TZZ ?hkZZ ?m1ZZ ?m2ZZ ?m3ZZ ?UZZ ?n1ZZ ?n2ZZ ?n3ZZ ?hsZZ ?hbZZ ?hblZZ ?hDZZ ?hTZZ ?hcZZ ?hdZZ ?huZZ ?_; (case BZZ => k_asm); (case FZZ => k_asm); (case XZZ => k_asm); (case NZZ => k_asm); (case TZZ => k_asm); (case hkZZ => first | exact rfl | assumption); (case m1ZZ => k_mem); (case m2ZZ => k_mem); (case m3ZZ => k_mem); (case UZZ => intro o'Z; k_upd); (case n1ZZ => assumption); (case n2ZZ => assumption); (case n3ZZ => assumption); (case hsZZ => assumption); (case hbZZ => assumption); (case hblZZ => assumption); (case hDZZ => assumption); (case hTZZ => assumption); (case hcZZ => assumption); (case hdZZ => ktr_room); (case huZZ => ktr_units)); intro nZ rZ tZ o'Z c'Z h'Z tk'Z hKnZ hFuZ hclZ hD'Z hbrZ F'Z N'Z; (have hT9Z := fur_tidy hFuZ); (have hc9Z := le1000 hclZ (by with_reducible assumption)); (try dsimp only)) | (with_reducible (k_here; (with_reducible show wpAny _ _ (compareOp CmpOp.NotIn (Value.int _ _) (Value.ref _)) _ _ _); k_dflt (refine' on_notin ?k1ZZ ?k2ZZ ?k3ZZ ?k4ZZ ?_; (case k1ZZ => k_asm); (case k2ZZ => k_mem); (case k3ZZ => with_reducible assumption); (case k4ZZ => with_reducible assumption)))) | (k_here; (with_reducible show wpAny _ _ (compareOp CmpOp.NotIn (Value.int _ _) (Value.ref _)) _ _ _); k_dflt (refine' on_notin ?k1ZZ ?k2ZZ ?k3ZZ ?k4ZZ ?_; (case k1ZZ => k_asm); (case k2ZZ => k_mem); (case k3ZZ => with_reducible assumption); (case k4ZZ => with_reducible assumption))) | (with_reducible (k_here; (with_reducible show wpAny _ _ (eval (Expr.Name (Str.ofString "on") _) (compEnvC _ _ _ _)) _ _ _); k_dflt (first | (refine' lcf_free ?NZZ ?cZZ ?mZZ ?dZZ ?_ ?aZZ ?bZZ; (case aZZ => rfl); (case bZZ => rfl); (case NZZ => k_asm); (case cZZ => rfl); (case mZZ => k_mem); (case dZZ => with_reducible assumption)) | (refine' lcf_cell ?NZZ ?cZZ ?mZZ ?dZZ ?_ ?aZZ ?bZZ; (case aZZ => rfl); (case bZZ => rfl); (case NZZ => k_asm); (case cZZ => rfl); (case mZZ => k_mem); (case dZZ => with_reducible assumption))))) | (k_here; (with_reducible show wpAny _ _ (eval (Expr.Name (Str.ofString "on") _) (compEnvC _ _ _ _)) _ _ _); k_dflt (first | (refine' lcf_free ?NZZ ?cZZ ?mZZ ?dZZ ?_ ?aZZ ?bZZ; (case aZZ => rfl); (case bZZ => rfl); (case NZZ => k_asm); (case cZZ => rfl); (case mZZ => k_mem); (case dZZ => with_reducible assumption)) | (refine' lcf_cell ?NZZ ?cZZ ?mZZ ?dZZ ?_ ?aZZ ?bZZ; (case aZZ => rfl); (case bZZ => rfl); (case NZZ => k_asm); (case cZZ => rfl); (case mZZ => k_mem); (case dZZ => with_reducible assumption)))) | (with_reducible (k_here; (with_reducible show wpAny _ _ (eval (Expr.ListComp _ _ _ _) _) _ _ _); lct_look; k_dflt (refine LCt.ListComp_T (F₀ := by k_asm) (by with_unfolding_all rfl) (by decide) (by rfl) (by decide) (by rfl) ?_))) | (k_here; (with_reducible show wpAny _ _ (eval (Expr.ListComp _ _ _ _) _) _ _ _); lct_look; k_dflt (refine LCt.ListComp_T (F₀ := by k_asm) (by with_unfolding_all rfl) (by decide) (by rfl) (by decide) (by rfl) ?_)) | (with_reducible (k_here; (with_reducible show wpAny _ _ (exec (Stmt.For (Expr.Name _ _) (Expr.BinOp _ _ _ _) _ _ _) _) _ _ _); (rename Fr _ _ _ _ => lF'Z); (with_unfolding_all refine' For_invVF lF'Z ?k1ZZ ?k2ZZ ?_; (case k1ZZ => exact rfl); (case k2ZZ => exact rfl); k_whole))) | (k_here; (with_reducible show wpAny _ _ (exec (Stmt.For (Expr.Name _ _) (Expr.BinOp _ _ _ _) _ _ _) _) _ _ _); (rename Fr _ _ _ _ => lF'Z); (with_unfolding_all refine' For_invVF lF'Z ?k1ZZ ?k2ZZ ?_; (case k1ZZ => exact rfl); (case k2ZZ => exact rfl); k_whole)) | (with_reducible (k_here; (with_reducible show wpAny _ _ (binaryOp Operator.Add (Value.ref _) (Value.ref _)) _ _ _); k_dflt (refine' add_refs ?k1ZZ ?k2ZZ ?k3ZZ ?k4ZZ ?k5ZZ ?_; (case k1ZZ => k_asm); (case k2ZZ => k_asm); (case k3ZZ => k_mem); (case k4ZZ => k_mem); (case k5ZZ => with_reducible assumption)); intro D'Z h'Z F'Z N'Z l1Z; (try k_lt l1Z))) | (k_here; (with_reducible show wpAny _ _ (binaryOp Operator.Add (Value.ref _) (Value.ref _)) _ _ _); k_dflt (refine' add_refs ?k1ZZ ?k2ZZ ?k3ZZ ?k4ZZ ?k5ZZ ?_; (case k1ZZ => k_asm); (case k2ZZ => k_asm); (case k3ZZ => k_mem); (case k4ZZ => k_mem); (case k5ZZ => with_reducible assumption)); intro D'Z h'Z F'Z N'Z l1Z; (try k_lt l1Z)) | (with_reducible (k_here; (with_reducible show wpAny _ _ (pyIter (Value.ref _)) _ _ _); refine halt ?_)) | (k_unfold; (try dsimp only)) | (k_end; kc_close) | walk1 | (dsimp only; walk1) | (leave1; (try dsimp only)) | fail "no step")
  all_goals
    rename (_ ≠ _ ∧ _ ≠ _ ∧ _ ≠ _ ∧ _ ≠ _ ∧ _ ≠ _ ∧ _ ≠ _ ∧ _ ≠ _ ∧ _ ≠ _ ∧ _ ≠ _ ∧ _ ≠ _ ∧ _ ≠ _) => o1
    rename spots _ _ = _ => hsp
    refine' hret _ _ _ _ _ _ _ _ ?i1 ?i2 ?i3 ?i4 ?i5 ?i6 ?i7 ?i8 (Ne.symm o1.2.2.2.2.2.2.2.2.2.1)
    case i7 =>
      rename Fr _ _ _ _ => F9
      exact (congrArg (Fr h₀ L _) hov).mp F9
    case i8 =>
      rename News _ _ _ _ => N9
      exact cb_drop N9 (by kst_allIn)
    case i3 => with_reducible assumption
    case i4 => with_reducible assumption
    case i5 => with_reducible assumption
    case i6 => with_reducible assumption
    case i1 => first | exact .nil | exact .cons _ _ .nil | exact .cons _ _ (.cons _ _ .nil) | exact .cons _ _ (.cons _ _ (.cons _ _ .nil))
    case i2 =>
      refine isin_leaf ?_ hsp
      first
        | exact ⟨fun _ => ⟨by with_reducible assumption, by with_reducible assumption, by with_reducible assumption⟩, fun _ => rfl⟩
        | exact ⟨fun h => absurd h (by simp), fun h => absurd h.1 (by with_reducible assumption)⟩
        | exact ⟨fun h => absurd h (by simp), fun h => absurd h.2.1 (by with_reducible assumption)⟩
        | exact ⟨fun h => absurd h (by simp), fun h => absurd h.2.2 (by with_reducible assumption)⟩
end
section
open PySem.Calls
theorem eq_nil {prog : Program} {w : World} {A : Around} {E : Value → Shared → Prop} {s : Shared} {h₀ : Heap} {L l k : Addr} {news : List (Addr × Obj)} {ys : List Value} {zs : List Int} {n' : Nat} {Q : Value → Shared → Prop} (N : News h₀ L s.heap news) (h1 : (l, LCg.lst ys) ∈ news) (h2 : (k, listOf #[] n') ∈ news) (hi : IntsAre ys zs) (hu : A.units + 64 < cLine)
    (h : Q (.bool (decide (zs = []))) s) : wpAny (model prog w) A (compareOp .Eq (.ref l) (.ref k)) Q E s :=
  ke_eq_ints (xs := ys) (ys := []) ⟨_, (N _ h1).1, rfl, _, rfl⟩ ⟨_, (N _ h2).1, rfl, _, rfl⟩ hi .nil hu h
theorem agree {c c' : List (Int × Int)} {k n n' : Int} (h : Knows c k n) (f : Further c c') (h' : Knows c' k n') : n = n' := (f.2.2 _ _ h).det h'
theorem may_is {due : Nat} {sp l : List Nat} {zs : List Int} (e : due = orAll 0 sp) (h : zs = [] ↔ ∀ p ∈ l, p ∈ sp) : (l.all fun q => due.testBit q) = decide (zs = []) := by
  rw [e, Bool.eq_iff_iff, List.all_eq_true, decide_eq_true_iff, h]
  refine forall_congr' fun p => forall_congr' fun _ => ?_
  rw [orAll_bit, Nat.zero_testBit, Bool.false_or, decide_eq_true_iff]
theorem leaf_may {c c' : List (Int × Int)} {k n n' bits : Int} {due : Nat} {sp : List Nat} {zs : List Int} (h : Knows c k n) (f : Further c c') (h' : Knows c' k n') (e : due = orAll 0 sp) (hz : zs = [] ↔ ∀ p ∈ spots (digOct n) bits, p ∈ sp)
    (a : (((spots (digOct n') bits).all fun q => due.testBit q) != decide (zs = [])) = true) : False := by
  rw [← agree h f h', may_is e hz] at a
  simp at a
theorem leaf_held {c ci c' : List (Int × Int)} {n bits : Int} {sp : List Nat} {zs : List Int} {hks : List (List Int)} {bs : List Int} (hAK : AllKnown c hks) (f : Further c ci) (f' : Further ci c') (h : Knows c' (keyOf bs) n) (hin : ∀ bs ∈ hks, ∀ p ∈ spotsOf c bits bs, p ∈ sp)
    (hz : zs = [] ↔ ∀ p ∈ spots (digOct n) bits, p ∈ sp) (hb : bs ∈ hks) (hn : ¬ zs = []) : False := by
  refine hn (hz.mpr fun p hp => hin bs hb p ?_)
  have e : numIn c bs = n := agree ⟨hAK bs hb, rfl⟩ (f.trans f') h
  unfold spotsOf
  rw [e]
  exact hp
set_option maxRecDepth 100000 in
set_option maxHeartbeats 1600000 in
theorem seg11 {oc : Obj} {w : World} {mean : ExcName → Option Value} {mg mb : Str → Option Value} {dp un : Nat} {gd : Option (List Code)} {fa : Addr} {cd : Value} {A₀ : Around} {base h₀ : Heap} {L : Addr} {m : Str → Option Value} {s : Shared} {Q : Flow → Shared → Prop} {wl q od x dx kd hl xl : Addr} {vs hw xv : List Value} {ns : List Int} {nq nkd nh nx : Nat} {ow oon o : Obj} {tkn : Tok} {c : List (Int × Int)} {hks xks : List (List Int)} {bits : Int} {due : Nat} {sp : List Nat} {tb td : Tok}
    (B : Below A₀ base [] h₀) (F : Fr h₀ L s.heap m) (X : (Mine.hd.heap_39 w.params).In h₀) (XB : (Mine.hd.heap_39 w.params).In base) (T : Top hd.view_39 (looseW hd.view_39 [Str.ofString "WORD", Str.ofString "LEAST_ADDRESS"]) mean mg mb h₀) (TB : Top hd.view_39 (looseW hd.view_39 [Str.ofString "WORD", Str.ofString "LEAST_ADDRESS"]) mean mg mb base) (N : News h₀ L s.heap [(wl, ow), (q, listOf vs.toArray nq), (od, oon), (L + 1, oc), (x, instObj 138 dx), (dx, dictOf [⟨PyData.keyHash w.params (Str.ofString "known"), .str (Str.ofString "known") tkn, .ref kd⟩] nkd), (kd, o), (hl, listOf hw.toArray nh), (xl, listOf xv.toArray nx)])
    (n1 : q ≠ wl) (n2 : od ≠ wl) (n3 : od ≠ q) (hW : IsWell q ns ow) (iv : IntsAre vs ns) (hn : ns.length ≤ 60) (hv : ∀ v ∈ ns, 0 ≤ v ∧ v < 2147483647)
    (n4 : x ≠ dx) (n5 : x ≠ kd) (n6 : dx ≠ kd) (k1 : wl ≠ kd) (k2 : q ≠ kd) (k3 : od ≠ kd) (k4 : L + 1 ≠ kd) (k5 : hl ≠ kd) (k6 : xl ≠ kd) (hsk : (kd == sysModules) = false) (hD : Bears w o c) (hT : Tidy c) (hc : c.length ≤ 800)
    (hH : BytesAre hw hks) (hX : BytesAre xv xks) (hHl : hks.length ≤ 20) (hXl : xks.length ≤ 6) (hH40 : ∀ bs ∈ hks, bs.length ≤ 40) (hX40 : ∀ bs ∈ xks, bs.length ≤ 40) (hAK : AllKnown c hks) (hin : ∀ bs ∈ hks, ∀ p ∈ spotsOf c bits bs, p ∈ sp)
    (hb0 : 3 ≤ bits) (hb1 : bits ≤ 11) (hs : (od == sysModules) = false) (hon : IsOn w oon sp) (hnd : sp.Nodup) (hlt : ∀ p ∈ sp, p < 2 ^ bits.toNat) (hdue : due = orAll 0 sp)
    (v1 : m (Str.ofString "well") = some (.ref wl)) (v2 : m (Str.ofString "bits") = some (.int bits tb)) (v3 : m (Str.ofString "due") = some (.int (due : Int) td)) (v4 : m (Str.ofString "digester") = some (.ref x)) (v5 : m (Str.ofString "held") = some (.ref hl)) (v6 : m (Str.ofString "others") = some (.ref xl))
    (hoc : oc.data = .cell (some (.ref od))) (hQ : ∀ h' tk' m', Fr h₀ L h' m' → Q (.ret (.bool true)) { s with heap := h', toks := tk' }) (hd : dp + 60 < recursionLimit) (hu : un + 600 < cLine) : wpAny (model PySem.Challenge.rw_pq0387_01.row.prog w) (ktrTop dp un gd (Str.ofString "law") (lawScope w.params) L fa cd [(Str.ofString "on", L + 1)] []) (execs (lawTail w.params 11) (envX (Str.ofString "law") (lawScope w.params) L fa cd [(Str.ofString "on", L + 1)])) Q (fun _ _ => False) s := by
  w_top off
  replace k1 := nN k1
  replace k2 := nN k2
  replace k3 := nN k3
  replace k4 := nN k4
  replace k5 := nN k5
  replace k6 := nN k6
  replace n5 := nN n5
  replace n6 := nN n6
  have hz : hw.length + xv.length ≤ 100 := by rw [hH.length, hX.length]; omega
  replace F := frSees F (.cons v1 (.cons v2 (.cons v3 (.cons v4 (.cons v5 (.cons v6 (.nil)))))))
  simp only [ovr] at F
  clear v1 v2 v3 v4 v5 v6
  with_unfolding_all (show wpAny _ (ktrTop _ _ _ _ ⟨_, _, _, _, _⟩ _ _ _ _ _) (execs (_ :: _) (envX _ ⟨_, _, _, _, _⟩ _ _ _ _)) _ _ _)
  revert X; k_fill; intro X
  repeat' (first | (with_reducible (k_here; (with_reducible show wpAny _ _ (call (Value.ref 79) _) _ _ _); k_dflt (refine' may_hold_ok ?BZZ ?FZZ ?XZZ ?NZZ ?TZZ ?hkZZ ?m1ZZ ?m2ZZ ?m3ZZ ?UZZ ?n1ZZ ?n2ZZ ?n3ZZ ?hsZZ ?hDZZ ?hTZZ ?hbZZ ?hblZZ ?hcZZ ?hb0ZZ ?hb1ZZ ?hdZZ ?huZZ ?_; (case BZZ => k_asm); (case FZZ => k_asm); (case XZZ => k_asm); (case NZZ => k_asm); (case TZZ => k_asm); (case hkZZ => first | exact rfl | assumption); (case m1ZZ => k_mem); (case m2ZZ => k_mem); (case m3ZZ => k_mem); (case UZZ => intro o'Z; k_upd); (case n1ZZ => assumption); (case n2ZZ => assumption); (case n3ZZ => assumption); (case hsZZ => assumption); (case hDZZ => assumption); (case hTZZ => assumption); (case hbZZ => assumption); (case hblZZ => assumption); (case hcZZ => assumption); (case hb0ZZ => assumption); (case hb1ZZ => assumption); (case hdZZ => ktr_room); (case huZZ => ktr_units)); intro nZ o'Z c'Z h'Z tk'Z hKnZ hFuZ hclZ hD'Z F'Z N'Z; (try dsimp only))) | (k_here; (with_reducible show wpAny _ _ (call (Value.ref 79) _) _ _ _); k_dflt (refine' may_hold_ok ?BZZ ?FZZ ?XZZ ?NZZ ?TZZ ?hkZZ ?m1ZZ ?m2ZZ ?m3ZZ ?UZZ ?n1ZZ ?n2ZZ ?n3ZZ ?hsZZ ?hDZZ ?hTZZ ?hbZZ ?hblZZ ?hcZZ ?hb0ZZ ?hb1ZZ ?hdZZ ?huZZ ?_; (case BZZ => k_asm); (case FZZ => k_asm); (case XZZ => k_asm); (case NZZ => k_asm); (case TZZ => k_asm); (case hkZZ => first | exact rfl | assumption); (case m1ZZ => k_mem); (case m2ZZ => k_mem); (case m3ZZ => k_mem); (case UZZ => intro o'Z; k_upd); (case n1ZZ => assumption); (case n2ZZ => assumption); (case n3ZZ => assumption); (case hsZZ => assumption); (case hDZZ => assumption); (case hTZZ => assumption); (case hbZZ => assumption); (case hblZZ => assumption); (case hcZZ => assumption); (case hb0ZZ => assumption); (case hb1ZZ => assumption); (case hdZZ => ktr_room); (case huZZ => ktr_units)); intro nZ o'Z c'Z h'Z tk'Z hKnZ hFuZ hclZ hD'Z F'Z N'Z; (try dsimp only)) | (with_reducible (k_here; (with_reducible show wpAny _ _ (compareOp CmpOp.In (Value.bytes _ _) (Value.ref _)) _ _ _); k_dflt (refine' in_octets ?k1ZZ ?k2ZZ ?k3ZZ ?k4ZZ ?_; (case k1ZZ => k_asm); (case k2ZZ => k_mem); (case k3ZZ => with_reducible assumption); (case k4ZZ => with_reducible assumption)))) | (k_here; (with_reducible show wpAny _ _ (compareOp CmpOp.In (Value.bytes _ _) (Value.ref _)) _ _ _); k_dflt (refine' in_octets ?k1ZZ ?k2ZZ ?k3ZZ ?k4ZZ ?_; (case k1ZZ => k_asm); (case k2ZZ => k_mem); (case k3ZZ => with_reducible assumption); (case k4ZZ => with_reducible assumption))) | (with_reducible (k_here; (with_reducible show wpAny _ _ (compareOp CmpOp.Eq (Value.ref _) (Value.ref _)) _ _ _); k_dflt (refine' eq_nil ?k1ZZ ?k2ZZ ?k3ZZ ?k4ZZ ?k5ZZ ?_; (case k1ZZ => k_asm); (case k2ZZ => k_mem); (case k3ZZ => k_mem); (case k4ZZ => with_reducible assumption); (case k5ZZ => ktr_units)))) | (k_here; (with_reducible show wpAny _ _ (compareOp CmpOp.Eq (Value.ref _) (Value.ref _)) _ _ _); k_dflt (refine' eq_nil ?k1ZZ ?k2ZZ ?k3ZZ ?k4ZZ ?k5ZZ ?_; (case k1ZZ => k_asm); (case k2ZZ => k_mem); (case k3ZZ => k_mem); (case k4ZZ => with_reducible assumption); (case k5ZZ => ktr_units))) | (with_reducible (k_here; (with_reducible show wpAny _ _ (eval (Expr.ListComp _ _ _ _) _) _ _ _); k_dflt (refine' isin_ok ?BZZ ?FZZ ?XZZ ?TZZ ?NZZ ?n4ZZ ?n5ZZ ?n6ZZ ?k0ZZ ?k00ZZ ?k1ZZ ?k2ZZ ?k3ZZ ?k4ZZ ?k5ZZ ?hskZZ ?hDZZ ?hTZZ ?hcZZ ?hbZZ ?hb40ZZ ?hb0ZZ ?hb1ZZ ?hsZZ ?honZZ ?v2ZZ ?v4ZZ ?v5ZZ ?hocZZ ?hdZZ ?huZZ ?_; (case BZZ => k_asm); (case FZZ => k_asm); (case XZZ => k_asm); (case TZZ => k_asm); (case NZZ => k_asm); (case n4ZZ => with_reducible assumption); (case n5ZZ => with_reducible assumption); (case n6ZZ => with_reducible assumption); (case k0ZZ => omega); (case k00ZZ => omega); (case k1ZZ => omega); (case k2ZZ => omega); (case k3ZZ => omega); (case k4ZZ => omega); (case k5ZZ => omega); (case hskZZ => with_reducible assumption); (case hDZZ => with_reducible assumption); (case hTZZ => with_reducible assumption); (case hcZZ => with_reducible assumption); (case hbZZ => with_reducible assumption); (case hb40ZZ => with_reducible assumption); (case hb0ZZ => with_reducible assumption); (case hb1ZZ => with_reducible assumption); (case hsZZ => with_reducible assumption); (case honZZ => with_reducible assumption); (case hocZZ => with_reducible assumption); (case v2ZZ => with_unfolding_all rfl); (case v4ZZ => with_unfolding_all rfl); (case v5ZZ => with_unfolding_all rfl); (case hdZZ => ktr_room); (case huZZ => ktr_units)); intro D9Z ys9Z zs9Z n9Z o9Z c9Z h9Z tk9Z iy9Z hz9Z hKnZ hFuZ hclZ hD'Z F'Z N'Z nD9Z; (have hT9Z := fur_tidy hFuZ); (have hc9Z := le1000 hclZ (by with_reducible assumption)); (try dsimp only))) | (k_here; (with_reducible show wpAny _ _ (eval (Expr.ListComp _ _ _ _) _) _ _ _); k_dflt (refine' isin_ok ?BZZ ?FZZ ?XZZ ?TZZ ?NZZ ?n4ZZ ?n5ZZ ?n6ZZ ?k0ZZ ?k00ZZ ?k1ZZ ?k2ZZ ?k3ZZ ?k4ZZ ?k5ZZ ?hskZZ ?hDZZ ?hTZZ ?hcZZ ?hbZZ ?hb40ZZ ?hb0ZZ ?hb1ZZ ?hsZZ ?honZZ ?v2ZZ ?v4ZZ ?v5ZZ ?hocZZ ?hdZZ ?huZZ ?_; (case BZZ => k_asm); (case FZZ => k_asm); (case XZZ => k_asm); (case TZZ => k_asm); (case NZZ => k_asm); (case n4ZZ => with_reducible assumption); (case n5ZZ => with_reducible assumption); (case n6ZZ => with_reducible assumption); (case k0ZZ => omega); (case k00ZZ => omega); (case k1ZZ => omega); (case k2ZZ => omega); (case k3ZZ => omega); (case k4ZZ => omega); (case k5ZZ => omega); (case hskZZ => with_reducible assumption); (case hDZZ => with_reducible assumption); (case hTZZ => with_reducible assumption); (case hcZZ => with_reducible assumption); (case hbZZ => with_reducible assumption); (case hb40ZZ => with_reducible assumption); (case hb0ZZ => with_reducible assumption); (case hb1ZZ => with_reducible assumption); (case hsZZ => with_reducible assumption); (case honZZ => with_reducible assumption); (case hocZZ => with_reducible assumption); (case v2ZZ => with_unfolding_all rfl); (case v4ZZ => with_unfolding_all rfl); (case v5ZZ => with_unfolding_all rfl); (case hdZZ => ktr_room); (case huZZ => ktr_units)); intro D9Z ys9Z zs9Z n9Z o9Z c9Z h9Z tk9Z iy9Z hz9Z hKnZ hFuZ hclZ hD'Z F'Z N'Z nD9Z; (have hT9Z := fur_tidy hFuZ); (have hc9Z := le1000 hclZ (by with_reducible assumption)); (try dsimp only)) | (with_reducible (k_here; (with_reducible show wpAny _ _ (exec (Stmt.For (Expr.Name _ _) (Expr.BinOp _ _ _ _) _ _ _) _) _ _ _); (rename Fr _ _ _ _ => lF'Z); (with_unfolding_all refine' For_invVF lF'Z ?k1ZZ ?k2ZZ ?_; (case k1ZZ => exact rfl); (case k2ZZ => exact rfl); k_whole))) | (k_here; (with_reducible show wpAny _ _ (exec (Stmt.For (Expr.Name _ _) (Expr.BinOp _ _ _ _) _ _ _) _) _ _ _); (rename Fr _ _ _ _ => lF'Z); (with_unfolding_all refine' For_invVF lF'Z ?k1ZZ ?k2ZZ ?_; (case k1ZZ => exact rfl); (case k2ZZ => exact rfl); k_whole)) | (with_reducible (k_here; (with_reducible show wpAny _ _ (binaryOp Operator.Add (Value.ref _) (Value.ref _)) _ _ _); k_dflt (refine' add_refs ?k1ZZ ?k2ZZ ?k3ZZ ?k4ZZ ?k5ZZ ?_; (case k1ZZ => k_asm); (case k2ZZ => k_asm); (case k3ZZ => k_mem); (case k4ZZ => k_mem); (case k5ZZ => with_reducible assumption)); intro D'Z h'Z F'Z N'Z l1Z; (try k_lt l1Z))) | (k_here; (with_reducible show wpAny _ _ (binaryOp Operator.Add (Value.ref _) (Value.ref _)) _ _ _); k_dflt (refine' add_refs ?k1ZZ ?k2ZZ ?k3ZZ ?k4ZZ ?k5ZZ ?_; (case k1ZZ => k_asm); (case k2ZZ => k_asm); (case k3ZZ => k_mem); (case k4ZZ => k_mem); (case k5ZZ => with_reducible assumption)); intro D'Z h'Z F'Z N'Z l1Z; (try k_lt l1Z)) | (with_reducible (k_here; (with_reducible show wpAny _ _ (pyIter (Value.ref _)) _ _ _); refine halt ?_)) | (k_unfold; (try dsimp only)) | (k_end; kc_close) | walk1 | (dsimp only; walk1) | (leave1; (try dsimp only)) | fail "no step")
  refine (?_ : wpAny _ _ _ _ _ _)
  rename News h₀ L _ _ => N1
  rename Fr h₀ L s.heap _ => F0
  rename Fr _ _ _ _ => F1
  rename _ < _ ∧ _ => l1
  obtain ⟨D', _, rfl, -⟩ := list_named N1
  have hnD : kd ≠ D' := Nat.ne_of_lt l1.2.2.2.2.2.2.1
  have hLd : D' ≠ L := (N1 (D', _) (List.Mem.head _)).2.1
  have N2 : News h₀ L _ [(D', listOf (hw ++ xv).toArray 0), (wl, ow), (q, listOf vs.toArray nq), (od, oon), (L + 1, oc), (x, instObj 138 dx), (dx, dictOf [⟨PyData.keyHash w.params (Str.ofString "known"), .str (Str.ofString "known") tkn, .ref kd⟩] nkd), (kd, o), (hl, listOf hw.toArray nh)] := cb_drop N1 (by kst_allIn)
  obtain ⟨m0, hm0, F1⟩ := fr_named F1
  refine' iterL (lo := listOf (hw ++ xv).toArray 0) (vs := hw ++ xv) (fun i m nx => ∃ (oi : Obj) (ci : List (Int × Int)) (q1 q2 : Option Value), m = frq (Str.ofString "one") q1 (frq (Str.ofString "is_in") q2 m0) ∧ nx = [(D', listOf (hw ++ xv).toArray 0), (wl, ow), (q, listOf vs.toArray nq), (od, oon), (L + 1, oc), (x, instObj 138 dx), (dx, dictOf [⟨PyData.keyHash w.params (Str.ofString "known"), .str (Str.ofString "known") tkn, .ref kd⟩] nkd), (kd, oi), (hl, listOf hw.toArray nh)] ∧ Bears w oi ci ∧ Further c ci ∧ ci.length ≤ c.length + 2 * i)
    ?hh ?hls ?hl (Ne.symm hLd) F1 N2 ?hj ?_ ?_
  case hh => with_unfolding_all rfl
  case hls => exact PySem.IsL.isList (n := 0) (N2 (D', _) (List.Mem.head _)).1
  case hl => exact .inr fun i m nx => by rintro ⟨oi, ci, q1, q2, _, rfl, _⟩; exact List.Mem.head _
  case hj => exact ⟨o, c, _, _, frq2_self _ _ _, rfl, hD, Further.refl hT, by omega⟩
  · rintro i v m₁ news₁ h tk I oI hvi ⟨oi, ci, q1, q2, rfl, rfl, hDi, hFi, hli⟩ hoI F2 N2
    obtain ⟨b, bs, tb1, rfl, hbb, hbs⟩ := (hH.append hX).at i v hvi
    change Fr h₀ L h _ at F2
    change News h₀ L h _ at N2
    unfold frq at F2
    rw [hm0] at F2
    have hil : i < hks.length + xks.length := by
      have := (List.getElem?_eq_some_iff.mp hbs).1
      rwa [List.length_append] at this
    have hci : ci.length ≤ 1000 := by omega
    have hci9 : ci.length + 1 ≤ 1000 := by omega
    have hci8 : ci.length ≤ 900 := by omega
    have hTi := hFi.1
    have hb40 : bs.length ≤ 40 := by
      rcases List.mem_append.mp (List.mem_of_getElem? hbs) with hm | hm
      · exact hH40 _ hm
      · exact hX40 _ hm
    simp only [List.forall_mem_cons, List.not_mem_nil, false_implies, implies_true, and_true] at hoI
    have hoI' := hoI
    obtain ⟨oI0, oI1, oI2, oI3, oI4, oI5, oI6, oI7, oI8⟩ := hoI'
    replace oI7 := nN oI7
    replace hoI := hoI
    replace hnD := nN hnD
    repeat' (first | (with_reducible (k_here; (with_reducible show wpAny _ _ (call (Value.ref 79) _) _ _ _); k_dflt (refine' may_hold_ok ?BZZ ?FZZ ?XZZ ?NZZ ?TZZ ?hkZZ ?m1ZZ ?m2ZZ ?m3ZZ ?UZZ ?n1ZZ ?n2ZZ ?n3ZZ ?hsZZ ?hDZZ ?hTZZ ?hbZZ ?hblZZ ?hcZZ ?hb0ZZ ?hb1ZZ ?hdZZ ?huZZ ?_; (case BZZ => k_asm); (case FZZ => k_asm); (case XZZ => k_asm); (case NZZ => k_asm); (case TZZ => k_asm); (case hkZZ => first | exact rfl | assumption); (case m1ZZ => k_mem); (case m2ZZ => k_mem); (case m3ZZ => k_mem); (case UZZ => intro o'Z; k_upd); (case n1ZZ => assumption); (case n2ZZ => assumption); (case n3ZZ => assumption); (case hsZZ => assumption); (case hDZZ => assumption); (case hTZZ => assumption); (case hbZZ => assumption); (case hblZZ => assumption); (case hcZZ => assumption); (case hb0ZZ => assumption); (case hb1ZZ => assumption); (case hdZZ => ktr_room); (case huZZ => ktr_units)); intro nZ o'Z c'Z h'Z tk'Z hKnZ hFuZ hclZ hD'Z F'Z N'Z; (try dsimp only))) | (k_here; (with_reducible show wpAny _ _ (call (Value.ref 79) _) _ _ _); k_dflt (refine' may_hold_ok ?BZZ ?FZZ ?XZZ ?NZZ ?TZZ ?hkZZ ?m1ZZ ?m2ZZ ?m3ZZ ?UZZ ?n1ZZ ?n2ZZ ?n3ZZ ?hsZZ ?hDZZ ?hTZZ ?hbZZ ?hblZZ ?hcZZ ?hb0ZZ ?hb1ZZ ?hdZZ ?huZZ ?_; (case BZZ => k_asm); (case FZZ => k_asm); (case XZZ => k_asm); (case NZZ => k_asm); (case TZZ => k_asm); (case hkZZ => first | exact rfl | assumption); (case m1ZZ => k_mem); (case m2ZZ => k_mem); (case m3ZZ => k_mem); (case UZZ => intro o'Z; k_upd); (case n1ZZ => assumption); (case n2ZZ => assumption); (case n3ZZ => assumption); (case hsZZ => assumption); (case hDZZ => assumption); (case hTZZ => assumption); (case hbZZ => assumption); (case hblZZ => assumption); (case hcZZ => assumption); (case hb0ZZ => assumption); (case hb1ZZ => assumption); (case hdZZ => ktr_room); (case huZZ => ktr_units)); intro nZ o'Z c'Z h'Z tk'Z hKnZ hFuZ hclZ hD'Z F'Z N'Z; (try dsimp only)) | (with_reducible (k_here; (with_reducible show wpAny _ _ (compareOp CmpOp.In (Value.bytes _ _) (Value.ref _)) _ _ _); k_dflt (refine' in_octets ?k1ZZ ?k2ZZ ?k3ZZ ?k4ZZ ?_; (case k1ZZ => k_asm); (case k2ZZ => k_mem); (case k3ZZ => with_reducible assumption); (case k4ZZ => with_reducible assumption)))) | (k_here; (with_reducible show wpAny _ _ (compareOp CmpOp.In (Value.bytes _ _) (Value.ref _)) _ _ _); k_dflt (refine' in_octets ?k1ZZ ?k2ZZ ?k3ZZ ?k4ZZ ?_; (case k1ZZ => k_asm); (case k2ZZ => k_mem); (case k3ZZ => with_reducible assumption); (case k4ZZ => with_reducible assumption))) | (with_reducible (k_here; (with_reducible show wpAny _ _ (compareOp CmpOp.Eq (Value.ref _) (Value.ref _)) _ _ _); k_dflt (refine' eq_nil ?k1ZZ ?k2ZZ ?k3ZZ ?k4ZZ ?k5ZZ ?_; (case k1ZZ => k_asm); (case k2ZZ => k_mem); (case k3ZZ => k_mem); (case k4ZZ => with_reducible assumption); (case k5ZZ => ktr_units)))) | (k_here; (with_reducible show wpAny _ _ (compareOp CmpOp.Eq (Value.ref _) (Value.ref _)) _ _ _); k_dflt (refine' eq_nil ?k1ZZ ?k2ZZ ?k3ZZ ?k4ZZ ?k5ZZ ?_; (case k1ZZ => k_asm); (case k2ZZ => k_mem); (case k3ZZ => k_mem); (case k4ZZ => with_reducible assumption); (case k5ZZ => ktr_units))) | (with_reducible (k_here; (with_reducible show wpAny _ _ (eval (Expr.ListComp _ _ _ _) _) _ _ _); k_dflt (refine' isin_ok ?BZZ ?FZZ ?XZZ ?TZZ ?NZZ ?n4ZZ ?n5ZZ ?n6ZZ ?k0ZZ ?k00ZZ ?k1ZZ ?k2ZZ ?k3ZZ ?k4ZZ ?k5ZZ ?hskZZ ?hDZZ ?hTZZ ?hcZZ ?hbZZ ?hb40ZZ ?hb0ZZ ?hb1ZZ ?hsZZ ?honZZ ?v2ZZ ?v4ZZ ?v5ZZ ?hocZZ ?hdZZ ?huZZ ?_; (case BZZ => k_asm); (case FZZ => k_asm); (case XZZ => k_asm); (case TZZ => k_asm); (case NZZ => k_asm); (case n4ZZ => with_reducible assumption); (case n5ZZ => with_reducible assumption); (case n6ZZ => with_reducible assumption); (case k0ZZ => omega); (case k00ZZ => omega); (case k1ZZ => omega); (case k2ZZ => omega); (case k3ZZ => omega); (case k4ZZ => omega); (case k5ZZ => omega); (case hskZZ => with_reducible assumption); (case hDZZ => with_reducible assumption); (case hTZZ => with_reducible assumption); (case hcZZ => with_reducible assumption); (case hbZZ => with_reducible assumption); (case hb40ZZ => with_reducible assumption); (case hb0ZZ => with_reducible assumption); (case hb1ZZ => with_reducible assumption); (case hsZZ => with_reducible assumption); (case honZZ => with_reducible assumption); (case hocZZ => with_reducible assumption); (case v2ZZ => with_unfolding_all rfl); (case v4ZZ => with_unfolding_all rfl); (case v5ZZ => with_unfolding_all rfl); (case hdZZ => ktr_room); (case huZZ => ktr_units)); intro D9Z ys9Z zs9Z n9Z o9Z c9Z h9Z tk9Z iy9Z hz9Z hKnZ hFuZ hclZ hD'Z F'Z N'Z nD9Z; (have hT9Z := fur_tidy hFuZ); (have hc9Z := le1000 hclZ (by with_reducible assumption)); (try dsimp only))) | (k_here; (with_reducible show wpAny _ _ (eval (Expr.ListComp _ _ _ _) _) _ _ _); k_dflt (refine' isin_ok ?BZZ ?FZZ ?XZZ ?TZZ ?NZZ ?n4ZZ ?n5ZZ ?n6ZZ ?k0ZZ ?k00ZZ ?k1ZZ ?k2ZZ ?k3ZZ ?k4ZZ ?k5ZZ ?hskZZ ?hDZZ ?hTZZ ?hcZZ ?hbZZ ?hb40ZZ ?hb0ZZ ?hb1ZZ ?hsZZ ?honZZ ?v2ZZ ?v4ZZ ?v5ZZ ?hocZZ ?hdZZ ?huZZ ?_; (case BZZ => k_asm); (case FZZ => k_asm); (case XZZ => k_asm); (case TZZ => k_asm); (case NZZ => k_asm); (case n4ZZ => with_reducible assumption); (case n5ZZ => with_reducible assumption); (case n6ZZ => with_reducible assumption); (case k0ZZ => omega); (case k00ZZ => omega); (case k1ZZ => omega); (case k2ZZ => omega); (case k3ZZ => omega); (case k4ZZ => omega); (case k5ZZ => omega); (case hskZZ => with_reducible assumption); (case hDZZ => with_reducible assumption); (case hTZZ => with_reducible assumption); (case hcZZ => with_reducible assumption); (case hbZZ => with_reducible assumption); (case hb40ZZ => with_reducible assumption); (case hb0ZZ => with_reducible assumption); (case hb1ZZ => with_reducible assumption); (case hsZZ => with_reducible assumption); (case honZZ => with_reducible assumption); (case hocZZ => with_reducible assumption); (case v2ZZ => with_unfolding_all rfl); (case v4ZZ => with_unfolding_all rfl); (case v5ZZ => with_unfolding_all rfl); (case hdZZ => ktr_room); (case huZZ => ktr_units)); intro D9Z ys9Z zs9Z n9Z o9Z c9Z h9Z tk9Z iy9Z hz9Z hKnZ hFuZ hclZ hD'Z F'Z N'Z nD9Z; (have hT9Z := fur_tidy hFuZ); (have hc9Z := le1000 hclZ (by with_reducible assumption)); (try dsimp only)) | (with_reducible (k_here; (with_reducible show wpAny _ _ (exec (Stmt.For (Expr.Name _ _) (Expr.BinOp _ _ _ _) _ _ _) _) _ _ _); (rename Fr _ _ _ _ => lF'Z); (with_unfolding_all refine' For_invVF lF'Z ?k1ZZ ?k2ZZ ?_; (case k1ZZ => exact rfl); (case k2ZZ => exact rfl); k_whole))) | (k_here; (with_reducible show wpAny _ _ (exec (Stmt.For (Expr.Name _ _) (Expr.BinOp _ _ _ _) _ _ _) _) _ _ _); (rename Fr _ _ _ _ => lF'Z); (with_unfolding_all refine' For_invVF lF'Z ?k1ZZ ?k2ZZ ?_; (case k1ZZ => exact rfl); (case k2ZZ => exact rfl); k_whole)) | (with_reducible (k_here; (with_reducible show wpAny _ _ (binaryOp Operator.Add (Value.ref _) (Value.ref _)) _ _ _); k_dflt (refine' add_refs ?k1ZZ ?k2ZZ ?k3ZZ ?k4ZZ ?k5ZZ ?_; (case k1ZZ => k_asm); (case k2ZZ => k_asm); (case k3ZZ => k_mem); (case k4ZZ => k_mem); (case k5ZZ => with_reducible assumption)); intro D'Z h'Z F'Z N'Z l1Z; (try k_lt l1Z))) | (k_here; (with_reducible show wpAny _ _ (binaryOp Operator.Add (Value.ref _) (Value.ref _)) _ _ _); k_dflt (refine' add_refs ?k1ZZ ?k2ZZ ?k3ZZ ?k4ZZ ?k5ZZ ?_; (case k1ZZ => k_asm); (case k2ZZ => k_asm); (case k3ZZ => k_mem); (case k4ZZ => k_mem); (case k5ZZ => with_reducible assumption)); intro D'Z h'Z F'Z N'Z l1Z; (try k_lt l1Z)) | (with_reducible (k_here; (with_reducible show wpAny _ _ (pyIter (Value.ref _)) _ _ _); refine halt ?_)) | (k_unfold; (try dsimp only)) | (k_end; kc_close) | walk1 | (dsimp only; walk1) | (leave1; (try dsimp only)) | fail "no step")
    all_goals
      rename Knows _ _ _ => g2
      revert g2
      rename Knows _ _ _ => g1
      intro g2
      rename Further ci _ => f1
      rename Further _ _ => f2
      rename (_ = [] ↔ _) => hz
      first
        | (rename (_ != _) = true => hne; exact (leaf_may g1 f2 g2 hdue hz hne).elim)
        | (rename ¬ _ = [] => hnz; rename bs ∈ hks => hbm; exact (leaf_held hAK hFi f1 g1 hin hz hbm hnz).elim)
        | (subst hm0
           show EndG _ _ _ _ _ _ _
           rename Fr h₀ L _ _ => F3
           rename News h₀ L _ _ => N3
           rename Bears w _ _ => b2
           rename _ ≤ List.length ci + 1 => q1
           rename List.length _ ≤ List.length _ + 1 => q2
           refine EndG.intro F3 N3 (by k_mem) (by k_allIn) (nx := [(D', listOf (hw ++ xv).toArray 0), (wl, ow), (q, listOf vs.toArray nq), (od, oon), (L + 1, oc), (x, instObj 138 dx), (dx, dictOf [⟨PyData.keyHash w.params (Str.ofString "known"), .str (Str.ofString "known") tkn, .ref kd⟩] nkd), (kd, _), (hl, listOf hw.toArray nh)]) ?_ ⟨_, _, _, _, frq2_again (x := Str.ofString "one") (y := Str.ofString "is_in") (by decide) _ _ _ _ _, rfl, b2, hFi.trans (f1.trans f2), by omega⟩
           simp only [List.forall_mem_cons, List.not_mem_nil, false_implies, implies_true, and_true]
           exact hoI)
  · rintro m₁ news₁ h3 tk3 ⟨oi, ci, q1, q2, rfl, rfl, hDi, hFi, hli⟩ F6 N6
    change Fr h₀ L h3 _ at F6
    change News h₀ L h3 _ at N6
    rw [hm0] at F6
    refine seg12 (s := { s with heap := h3, toks := tk3 }) (tb := tb) (td := td) (oon := oon) B F6 X XB T TB (cb_drop N6 (by kst_allIn)) n1 n2 n3 hW iv hn hv hb0 hb1 hs hon hnd hlt hdue ?h3 ?h4 ?h5 hoc hQ hd hu
    case h3 => with_unfolding_all rfl
    case h4 => with_unfolding_all rfl
    case h5 => with_unfolding_all rfl
end
section
open PySem.Calls
theorem many_k {r : Int} (h0 : 0 ≤ r) (h1 : r < 2) : (([20, 32] : List Int).getD r.toNat 0 = 20 ∧ (([20, 32] : List Int).getD r.toNat 0).toNat = 20) ∨ (([20, 32] : List Int).getD r.toNat 0 = 32 ∧ (([20, 32] : List Int).getD r.toNat 0).toNat = 32) := by
  have h : r = 0 ∨ r = 1 := by omega
  rcases h with rfl | rfl
  · exact .inl ⟨rfl, rfl⟩
  · exact .inr ⟨rfl, rfl⟩
theorem many_le {r : Int} (h0 : 0 ≤ r) (h1 : r < 2) : (([20, 32] : List Int).getD r.toNat 0).toNat ≤ 32 := by
  rcases many_k h0 h1 with h | h <;> omega
theorem many_lt {r n : Int} (h : n < 256 ^ (([20, 32] : List Int).getD r.toNat 0).toNat) (h0 : 0 ≤ r) (h1 : r < 2) : n < 256 ^ 32 := by
  rcases many_k h0 h1 with ⟨_, e⟩ | ⟨_, e⟩
  · rw [e] at h
    exact Int.lt_trans h (by decide)
  · rw [e] at h
    exact h
theorem news_head {h₀ h : Heap} {L a : Addr} {o : Obj} {rest : List (Addr × Obj)} (N : News h₀ L h ((a, o) :: rest)) : ∃ b : Addr, b = a := ⟨a, rfl⟩
section
variable {prog : Program} {w : World} {A : Around} {E : Value → Shared → Prop} {s : Shared} {h₀ : Heap} {L : Addr} {m : PySem.Str → Option Value} {news : List (Addr × Obj)} {Q : Value → Shared → Prop} {n : Int} {t : Tok}
theorem range_at (F : Fr h₀ L s.heap m) (N : News h₀ L s.heap news) (h : ∀ r h' tk t₁ u₁ v₁, IsRange h' r 0 n 1 t₁ u₁ v₁ → Fr h₀ L h' m → News h₀ L h' news → Q (.ref r) { s with heap := h', toks := tk }) : wpAny (model prog w) A (call (.type "range") [.int n t]) Q E s :=
  range1_rows F N fun h' tk t₁ u₁ v₁ hr F' N' _ => h _ h' tk t₁ u₁ v₁ hr F' N'
theorem range_small {n : Int} (h0 : 0 ≤ n) (h1 : n ≤ 1000) : Builtin.Range.small 0 n 1 = true := small_one (by decide) (by decide) (by omega) (by omega)
theorem range_size {n : Int} (h0 : 0 ≤ n) : Builtin.Range.rangeSize 0 n 1 = ((n.toNat : Nat) : Int) := by rw [rangeSize_nat, Int.sub_zero]
end
set_option maxRecDepth 100000 in
set_option maxHeartbeats 1000000 in
theorem seg9 {oc : Obj} {w : World} {mean : ExcName → Option Value} {mg mb : Str → Option Value} {dp un : Nat} {gd : Option (List Code)} {fa : Addr} {cd : Value} {A₀ : Around} {base h₀ : Heap} {L : Addr} {m : Str → Option Value} {s : Shared} {Q : Flow → Shared → Prop} {wl q od x dx kd hl al : Addr} {vs hw av : List Value} {ns as : List Int} {nq nkd nh na : Nat} {ow oon o : Obj} {tkn : Tok} {c : List (Int × Int)} {hks : List (List Int)} {bits : Int} {due : Nat} {sp : List Nat} {tb td : Tok}
    (B : Below A₀ base [] h₀) (F : Fr h₀ L s.heap m) (X : (Mine.hd.heap_39 w.params).In h₀) (XB : (Mine.hd.heap_39 w.params).In base) (T : Top hd.view_39 (looseW hd.view_39 [Str.ofString "WORD", Str.ofString "LEAST_ADDRESS"]) mean mg mb h₀) (TB : Top hd.view_39 (looseW hd.view_39 [Str.ofString "WORD", Str.ofString "LEAST_ADDRESS"]) mean mg mb base) (N : News h₀ L s.heap [(wl, ow), (q, listOf vs.toArray nq), (od, oon), (L + 1, oc), (x, instObj 138 dx), (dx, dictOf [⟨PyData.keyHash w.params (Str.ofString "known"), .str (Str.ofString "known") tkn, .ref kd⟩] nkd), (kd, o), (hl, listOf hw.toArray nh), (al, listOf av.toArray na)])
    (n1 : q ≠ wl) (n2 : od ≠ wl) (n3 : od ≠ q) (w1 : @Ne Nat (L + 1) wl) (w2 : @Ne Nat x wl) (w3 : @Ne Nat dx wl) (w4 : @Ne Nat hl wl) (w5 : al ≠ wl) (hW : IsWell q ns ow) (iv : IntsAre vs ns) (hn : ns.length ≤ 60) (hv : ∀ v ∈ ns, 0 ≤ v ∧ v < 2147483647)
    (iav : IntsAre av as) (han : as.length ≤ 100) (hav : ∀ v ∈ as, 0 ≤ v ∧ v < 256 ^ 32)
    (n4 : x ≠ dx) (n5 : x ≠ kd) (n6 : dx ≠ kd) (k1 : wl ≠ kd) (k2 : q ≠ kd) (k3 : od ≠ kd) (k4 : L + 1 ≠ kd) (k5 : hl ≠ kd) (hsk : (kd == sysModules) = false) (hD : Bears w o c) (hT : Tidy c) (hc : c.length ≤ 800)
    (hH : BytesAre hw hks) (hHl : hks.length ≤ 20) (hH40 : ∀ bs ∈ hks, bs.length ≤ 40) (hAK : AllKnown c hks) (hin : ∀ bs ∈ hks, ∀ p ∈ spotsOf c bits bs, p ∈ sp)
    (hb0 : 3 ≤ bits) (hb1 : bits ≤ 11) (hs : (od == sysModules) = false) (hon : IsOn w oon sp) (hnd : sp.Nodup) (hlt : ∀ p ∈ sp, p < 2 ^ bits.toNat) (hdue : due = orAll 0 sp)
    (v1 : m (Str.ofString "well") = some (.ref wl)) (v2 : m (Str.ofString "bits") = some (.int bits tb)) (v3 : m (Str.ofString "due") = some (.int (due : Int) td)) (v4 : m (Str.ofString "digester") = some (.ref x)) (v5 : m (Str.ofString "held") = some (.ref hl)) (v6 : m (Str.ofString "ahead") = some (.ref al))
    (hoc : oc.data = .cell (some (.ref od))) (hQ : ∀ h' tk' m', Fr h₀ L h' m' → Q (.ret (.bool true)) { s with heap := h', toks := tk' }) (hd : dp + 60 < recursionLimit) (hu : un + 600 < cLine) : wpAny (model PySem.Challenge.rw_pq0387_01.row.prog w) (ktrTop dp un gd (Str.ofString "law") (lawScope w.params) L fa cd [(Str.ofString "on", L + 1)] []) (execs (lawTail w.params 9) (envX (Str.ofString "law") (lawScope w.params) L fa cd [(Str.ofString "on", L + 1)])) Q (fun _ _ => False) s := by
  w_top off
  replace k1 := nN k1
  have n1' := nN n1
  have n2' := nN n2
  have w5' := nN w5
  replace F := frSees F (.cons v1 (.cons v2 (.cons v3 (.cons v4 (.cons v5 (.cons v6 (.nil)))))))
  simp only [ovr] at F
  clear v1 v2 v3 v4 v5 v6
  with_unfolding_all (show wpAny _ (ktrTop _ _ _ _ ⟨_, _, _, _, _⟩ _ _ _ _ _) (execs (_ :: _) (envX _ ⟨_, _, _, _, _⟩ _ _ _ _)) _ _ _)
  revert X; k_fill; intro X
  repeat' (first | (with_reducible (k_here; (with_reducible show wpAny _ _ (call (Value.ref 166) _) _ _ _); k_dflt (refine' octets_ok ?BZZ ?FZZ ?XZZ ?NZZ ?TZZ ?hkZZ ?hn0ZZ ?hn1ZZ ?hmZZ ?hdZZ ?huZZ ?_; (case BZZ => k_asm); (case FZZ => k_asm); (case XZZ => k_asm); (case NZZ => k_asm); (case TZZ => k_asm); (case hkZZ => first | exact rfl | assumption); (case hmZZ => exact many_k (by with_reducible assumption) (by with_reducible assumption)); (case hn0ZZ => assumption); (case hn1ZZ => exact many_lt (by with_reducible assumption) (by with_reducible assumption) (by with_reducible assumption)); (case hdZZ => ktr_room); (case huZZ => ktr_units)); intro b9Z t9Z h'Z tk'Z hb9Z F'Z N'Z; (try dsimp only))) | (k_here; (with_reducible show wpAny _ _ (call (Value.ref 166) _) _ _ _); k_dflt (refine' octets_ok ?BZZ ?FZZ ?XZZ ?NZZ ?TZZ ?hkZZ ?hn0ZZ ?hn1ZZ ?hmZZ ?hdZZ ?huZZ ?_; (case BZZ => k_asm); (case FZZ => k_asm); (case XZZ => k_asm); (case NZZ => k_asm); (case TZZ => k_asm); (case hkZZ => first | exact rfl | assumption); (case hmZZ => exact many_k (by with_reducible assumption) (by with_reducible assumption)); (case hn0ZZ => assumption); (case hn1ZZ => exact many_lt (by with_reducible assumption) (by with_reducible assumption) (by with_reducible assumption)); (case hdZZ => ktr_room); (case huZZ => ktr_units)); intro b9Z t9Z h'Z tk'Z hb9Z F'Z N'Z; (try dsimp only)) | (with_reducible (k_here; (with_reducible show wpAny _ _ (call (Value.ref 161) _) _ _ _); k_dflt (refine' number_ok ?BZZ ?FZZ ?XZZ ?NZZ ?TZZ ?hkZZ ?m1ZZ ?hWZZ ?m2ZZ ?m3ZZ ?UZZ ?hqZZ ?haZZ ?ivZZ ?hnZZ ?hvZZ ?iavZZ ?hanZZ ?havZZ ?hmZZ ?hdZZ ?huZZ ?_; (case BZZ => k_asm); (case FZZ => k_asm); (case XZZ => k_asm); (case NZZ => k_asm); (case TZZ => k_asm); (case hkZZ => first | exact rfl | assumption); (case hWZZ => assumption); (case ivZZ => assumption); (case iavZZ => assumption); (case hmZZ => exact many_k (by with_reducible assumption) (by with_reducible assumption)); (case m1ZZ => k_mem); (case m2ZZ => k_mem); (case m3ZZ => k_mem); (case UZZ => intro o'Z; k_upd); (case hqZZ => assumption); (case haZZ => assumption); (case hnZZ => assumption); (case hvZZ => assumption); (case hanZZ => assumption); (case havZZ => assumption); (case hdZZ => ktr_room); (case huZZ => ktr_units)); intro r9Z t9Z o9Z h'Z tk'Z hr0Z hr1Z hW'Z F'Z N'Z; (try dsimp only))) | (k_here; (with_reducible show wpAny _ _ (call (Value.ref 161) _) _ _ _); k_dflt (refine' number_ok ?BZZ ?FZZ ?XZZ ?NZZ ?TZZ ?hkZZ ?m1ZZ ?hWZZ ?m2ZZ ?m3ZZ ?UZZ ?hqZZ ?haZZ ?ivZZ ?hnZZ ?hvZZ ?iavZZ ?hanZZ ?havZZ ?hmZZ ?hdZZ ?huZZ ?_; (case BZZ => k_asm); (case FZZ => k_asm); (case XZZ => k_asm); (case NZZ => k_asm); (case TZZ => k_asm); (case hkZZ => first | exact rfl | assumption); (case hWZZ => assumption); (case ivZZ => assumption); (case iavZZ => assumption); (case hmZZ => exact many_k (by with_reducible assumption) (by with_reducible assumption)); (case m1ZZ => k_mem); (case m2ZZ => k_mem); (case m3ZZ => k_mem); (case UZZ => intro o'Z; k_upd); (case hqZZ => assumption); (case haZZ => assumption); (case hnZZ => assumption); (case hvZZ => assumption); (case hanZZ => assumption); (case havZZ => assumption); (case hdZZ => ktr_room); (case huZZ => ktr_units)); intro r9Z t9Z o9Z h'Z tk'Z hr0Z hr1Z hW'Z F'Z N'Z; (try dsimp only)) | (with_reducible (k_here; (with_reducible show wpAny _ _ (call (Value.ref 154) _) _ _ _); k_dflt (refine' draw_ok ?BZZ ?FZZ ?XZZ ?NZZ ?TZZ ?hkZZ ?m1ZZ ?m2ZZ ?hWZZ ?UZZ ?hqZZ ?ivZZ ?hnZZ ?hvZZ ?hz0ZZ ?hz1ZZ ?hdZZ ?huZZ ?_; (case BZZ => k_asm); (case FZZ => k_asm); (case XZZ => k_asm); (case NZZ => k_asm); (case TZZ => k_asm); (case hkZZ => first | exact rfl | assumption); (case hWZZ => assumption); (case m1ZZ => k_mem); (case m2ZZ => k_mem); (case UZZ => intro o'Z; k_upd); (case hqZZ => assumption); (case ivZZ => assumption); (case hnZZ => assumption); (case hvZZ => assumption); (case hz0ZZ => omega); (case hz1ZZ => omega); (case hdZZ => ktr_room); (case huZZ => ktr_units)); intro r9Z t9Z o9Z h'Z tk'Z hr0Z hr1Z hW'Z F'Z N'Z; (try dsimp only))) | (k_here; (with_reducible show wpAny _ _ (call (Value.ref 154) _) _ _ _); k_dflt (refine' draw_ok ?BZZ ?FZZ ?XZZ ?NZZ ?TZZ ?hkZZ ?m1ZZ ?m2ZZ ?hWZZ ?UZZ ?hqZZ ?ivZZ ?hnZZ ?hvZZ ?hz0ZZ ?hz1ZZ ?hdZZ ?huZZ ?_; (case BZZ => k_asm); (case FZZ => k_asm); (case XZZ => k_asm); (case NZZ => k_asm); (case TZZ => k_asm); (case hkZZ => first | exact rfl | assumption); (case hWZZ => assumption); (case m1ZZ => k_mem); (case m2ZZ => k_mem); (case UZZ => intro o'Z; k_upd); (case hqZZ => assumption); (case ivZZ => assumption); (case hnZZ => assumption); (case hvZZ => assumption); (case hz0ZZ => omega); (case hz1ZZ => omega); (case hdZZ => ktr_room); (case huZZ => ktr_units)); intro r9Z t9Z o9Z h'Z tk'Z hr0Z hr1Z hW'Z F'Z N'Z; (try dsimp only)) | (with_reducible (k_here; (with_reducible show wpAny _ _ (call (Value.builtin "list.append") _) _ _ _); k_dflt (refine' app_list ?k1ZZ ?k2ZZ ?k3ZZ ?k4ZZ ?k5ZZ ?_; (case k1ZZ => k_asm); (case k2ZZ => k_asm); (case k3ZZ => k_mem); (case k4ZZ => intro o'Z; k_upd); (case k5ZZ => with_reducible assumption)); intro h'Z F'Z N'Z)) | (k_here; (with_reducible show wpAny _ _ (call (Value.builtin "list.append") _) _ _ _); k_dflt (refine' app_list ?k1ZZ ?k2ZZ ?k3ZZ ?k4ZZ ?k5ZZ ?_; (case k1ZZ => k_asm); (case k2ZZ => k_asm); (case k3ZZ => k_mem); (case k4ZZ => intro o'Z; k_upd); (case k5ZZ => with_reducible assumption)); intro h'Z F'Z N'Z) | (with_reducible (k_here; (with_reducible show wpAny _ _ (call (Value.type "range") _) _ _ _); k_dflt (refine' range_at ?k1ZZ ?k2ZZ ?_; (case k1ZZ => k_asm); (case k2ZZ => k_asm)); intro r9Z h'Z tk9Z t9Z u9Z v9Z hr9Z F'Z N'Z)) | (k_here; (with_reducible show wpAny _ _ (call (Value.type "range") _) _ _ _); k_dflt (refine' range_at ?k1ZZ ?k2ZZ ?_; (case k1ZZ => k_asm); (case k2ZZ => k_asm)); intro r9Z h'Z tk9Z t9Z u9Z v9Z hr9Z F'Z N'Z) | (with_reducible (k_here; (with_reducible show wpAny _ _ (pyIter (Value.ref _)) _ _ _); refine halt ?_)) | (k_unfold; (try dsimp only)) | (k_end; kc_close) | walk1 | (dsimp only; walk1) | (leave1; (try dsimp only)) | fail "no step")
  refine (?_ : wpAny _ _ _ _ _ _)
  rename Fr h₀ L _ _ => F1
  rename News h₀ L _ _ => N1
  rename (_ < _ ∧ _ < _ ∧ _ < _ ∧ _) => l1
  rename IsRange _ _ _ _ _ _ _ _ => hr
  rename IsWell _ _ _ => hW1
  rename 0 ≤ _ => hz0
  rename _ < 6 => hz1
  obtain ⟨xl, rfl⟩ := news_head N1
  rename Fr h₀ L _ _ => F1
  rename News h₀ L _ _ => N1
  obtain ⟨m0, hm0, F1⟩ := fr_named F1
  have hxL : xl ≠ L := (N1 (xl, _) (List.Mem.head _)).2.1
  refine' iterR (fun i m nx => ∃ (owi : Obj) (xv : List Value) (nxi : Nat) (xks : List (List Int)) (q1 q2 : Option Value), m = frq (Str.ofString "turn") q1 (frq (Str.ofString "many") q2 m0) ∧ nx = [(xl, listOf xv.toArray nxi), (wl, owi), (q, listOf vs.toArray nq), (od, oon), (L + 1, oc), (x, instObj 138 dx), (dx, dictOf [⟨PyData.keyHash w.params (Str.ofString "known"), .str (Str.ofString "known") tkn, .ref kd⟩] nkd), (kd, o), (hl, listOf hw.toArray nh), (al, listOf av.toArray na)] ∧ IsWell q ns owi ∧ BytesAre xv xks ∧ xks.length = i ∧ ∀ bs ∈ xks, bs.length ≤ 40)
    ?hh hr (range_small (by omega) (by omega)) (range_size (by omega)) F1 N1 ?hj ?_ ?_
  case hh => with_unfolding_all rfl
  case hj => exact ⟨_, [], _, [], _, _, frq2_self _ _ _, rfl, hW1, .nil, rfl, fun _ h => nomatch h⟩
  · rintro i t m₁ news₁ h tk I oI hi ⟨owi, xv, nxi, xks, q1, q2, rfl, rfl, hWi, hXi, hxl, hx40⟩ hoI F2 N2
    change Fr h₀ L h _ at F2
    change News h₀ L h _ at N2
    unfold frq at F2
    have hm0' := hm0
    subst hm0'
    clear hW hW1 hr F1 N1
    simp only [List.forall_mem_cons, List.not_mem_nil, false_implies, implies_true, and_true] at hoI
    have hoI' := hoI
    obtain ⟨oI0, oI1, oI2, oI3, oI4, oI5, oI6, oI7, oI8, oI9⟩ := hoI'
    replace oI0 := nN oI0
    have hxv : xv.length ≤ 1000 := by
      have := hXi.length
      omega
    replace oI1 := nN oI1
    repeat' (first | (with_reducible (k_here; (with_reducible show wpAny _ _ (call (Value.ref 166) _) _ _ _); k_dflt (refine' octets_ok ?BZZ ?FZZ ?XZZ ?NZZ ?TZZ ?hkZZ ?hn0ZZ ?hn1ZZ ?hmZZ ?hdZZ ?huZZ ?_; (case BZZ => k_asm); (case FZZ => k_asm); (case XZZ => k_asm); (case NZZ => k_asm); (case TZZ => k_asm); (case hkZZ => first | exact rfl | assumption); (case hmZZ => exact many_k (by with_reducible assumption) (by with_reducible assumption)); (case hn0ZZ => assumption); (case hn1ZZ => exact many_lt (by with_reducible assumption) (by with_reducible assumption) (by with_reducible assumption)); (case hdZZ => ktr_room); (case huZZ => ktr_units)); intro b9Z t9Z h'Z tk'Z hb9Z F'Z N'Z; (try dsimp only))) | (k_here; (with_reducible show wpAny _ _ (call (Value.ref 166) _) _ _ _); k_dflt (refine' octets_ok ?BZZ ?FZZ ?XZZ ?NZZ ?TZZ ?hkZZ ?hn0ZZ ?hn1ZZ ?hmZZ ?hdZZ ?huZZ ?_; (case BZZ => k_asm); (case FZZ => k_asm); (case XZZ => k_asm); (case NZZ => k_asm); (case TZZ => k_asm); (case hkZZ => first | exact rfl | assumption); (case hmZZ => exact many_k (by with_reducible assumption) (by with_reducible assumption)); (case hn0ZZ => assumption); (case hn1ZZ => exact many_lt (by with_reducible assumption) (by with_reducible assumption) (by with_reducible assumption)); (case hdZZ => ktr_room); (case huZZ => ktr_units)); intro b9Z t9Z h'Z tk'Z hb9Z F'Z N'Z; (try dsimp only)) | (with_reducible (k_here; (with_reducible show wpAny _ _ (call (Value.ref 161) _) _ _ _); k_dflt (refine' number_ok ?BZZ ?FZZ ?XZZ ?NZZ ?TZZ ?hkZZ ?m1ZZ ?hWZZ ?m2ZZ ?m3ZZ ?UZZ ?hqZZ ?haZZ ?ivZZ ?hnZZ ?hvZZ ?iavZZ ?hanZZ ?havZZ ?hmZZ ?hdZZ ?huZZ ?_; (case BZZ => k_asm); (case FZZ => k_asm); (case XZZ => k_asm); (case NZZ => k_asm); (case TZZ => k_asm); (case hkZZ => first | exact rfl | assumption); (case hWZZ => assumption); (case ivZZ => assumption); (case iavZZ => assumption); (case hmZZ => exact many_k (by with_reducible assumption) (by with_reducible assumption)); (case m1ZZ => k_mem); (case m2ZZ => k_mem); (case m3ZZ => k_mem); (case UZZ => intro o'Z; k_upd); (case hqZZ => assumption); (case haZZ => assumption); (case hnZZ => assumption); (case hvZZ => assumption); (case hanZZ => assumption); (case havZZ => assumption); (case hdZZ => ktr_room); (case huZZ => ktr_units)); intro r9Z t9Z o9Z h'Z tk'Z hr0Z hr1Z hW'Z F'Z N'Z; (try dsimp only))) | (k_here; (with_reducible show wpAny _ _ (call (Value.ref 161) _) _ _ _); k_dflt (refine' number_ok ?BZZ ?FZZ ?XZZ ?NZZ ?TZZ ?hkZZ ?m1ZZ ?hWZZ ?m2ZZ ?m3ZZ ?UZZ ?hqZZ ?haZZ ?ivZZ ?hnZZ ?hvZZ ?iavZZ ?hanZZ ?havZZ ?hmZZ ?hdZZ ?huZZ ?_; (case BZZ => k_asm); (case FZZ => k_asm); (case XZZ => k_asm); (case NZZ => k_asm); (case TZZ => k_asm); (case hkZZ => first | exact rfl | assumption); (case hWZZ => assumption); (case ivZZ => assumption); (case iavZZ => assumption); (case hmZZ => exact many_k (by with_reducible assumption) (by with_reducible assumption)); (case m1ZZ => k_mem); (case m2ZZ => k_mem); (case m3ZZ => k_mem); (case UZZ => intro o'Z; k_upd); (case hqZZ => assumption); (case haZZ => assumption); (case hnZZ => assumption); (case hvZZ => assumption); (case hanZZ => assumption); (case havZZ => assumption); (case hdZZ => ktr_room); (case huZZ => ktr_units)); intro r9Z t9Z o9Z h'Z tk'Z hr0Z hr1Z hW'Z F'Z N'Z; (try dsimp only)) | (with_reducible (k_here; (with_reducible show wpAny _ _ (call (Value.ref 154) _) _ _ _); k_dflt (refine' draw_ok ?BZZ ?FZZ ?XZZ ?NZZ ?TZZ ?hkZZ ?m1ZZ ?m2ZZ ?hWZZ ?UZZ ?hqZZ ?ivZZ ?hnZZ ?hvZZ ?hz0ZZ ?hz1ZZ ?hdZZ ?huZZ ?_; (case BZZ => k_asm); (case FZZ => k_asm); (case XZZ => k_asm); (case NZZ => k_asm); (case TZZ => k_asm); (case hkZZ => first | exact rfl | assumption); (case hWZZ => assumption); (case m1ZZ => k_mem); (case m2ZZ => k_mem); (case UZZ => intro o'Z; k_upd); (case hqZZ => assumption); (case ivZZ => assumption); (case hnZZ => assumption); (case hvZZ => assumption); (case hz0ZZ => omega); (case hz1ZZ => omega); (case hdZZ => ktr_room); (case huZZ => ktr_units)); intro r9Z t9Z o9Z h'Z tk'Z hr0Z hr1Z hW'Z F'Z N'Z; (try dsimp only))) | (k_here; (with_reducible show wpAny _ _ (call (Value.ref 154) _) _ _ _); k_dflt (refine' draw_ok ?BZZ ?FZZ ?XZZ ?NZZ ?TZZ ?hkZZ ?m1ZZ ?m2ZZ ?hWZZ ?UZZ ?hqZZ ?ivZZ ?hnZZ ?hvZZ ?hz0ZZ ?hz1ZZ ?hdZZ ?huZZ ?_; (case BZZ => k_asm); (case FZZ => k_asm); (case XZZ => k_asm); (case NZZ => k_asm); (case TZZ => k_asm); (case hkZZ => first | exact rfl | assumption); (case hWZZ => assumption); (case m1ZZ => k_mem); (case m2ZZ => k_mem); (case UZZ => intro o'Z; k_upd); (case hqZZ => assumption); (case ivZZ => assumption); (case hnZZ => assumption); (case hvZZ => assumption); (case hz0ZZ => omega); (case hz1ZZ => omega); (case hdZZ => ktr_room); (case huZZ => ktr_units)); intro r9Z t9Z o9Z h'Z tk'Z hr0Z hr1Z hW'Z F'Z N'Z; (try dsimp only)) | (with_reducible (k_here; (with_reducible show wpAny _ _ (call (Value.builtin "list.append") _) _ _ _); k_dflt (refine' app_list ?k1ZZ ?k2ZZ ?k3ZZ ?k4ZZ ?k5ZZ ?_; (case k1ZZ => k_asm); (case k2ZZ => k_asm); (case k3ZZ => k_mem); (case k4ZZ => intro o'Z; k_upd); (case k5ZZ => with_reducible assumption)); intro h'Z F'Z N'Z)) | (k_here; (with_reducible show wpAny _ _ (call (Value.builtin "list.append") _) _ _ _); k_dflt (refine' app_list ?k1ZZ ?k2ZZ ?k3ZZ ?k4ZZ ?k5ZZ ?_; (case k1ZZ => k_asm); (case k2ZZ => k_asm); (case k3ZZ => k_mem); (case k4ZZ => intro o'Z; k_upd); (case k5ZZ => with_reducible assumption)); intro h'Z F'Z N'Z) | (with_reducible (k_here; (with_reducible show wpAny _ _ (call (Value.type "range") _) _ _ _); k_dflt (refine' range_at ?k1ZZ ?k2ZZ ?_; (case k1ZZ => k_asm); (case k2ZZ => k_asm)); intro r9Z h'Z tk9Z t9Z u9Z v9Z hr9Z F'Z N'Z)) | (k_here; (with_reducible show wpAny _ _ (call (Value.type "range") _) _ _ _); k_dflt (refine' range_at ?k1ZZ ?k2ZZ ?_; (case k1ZZ => k_asm); (case k2ZZ => k_asm)); intro r9Z h'Z tk9Z t9Z u9Z v9Z hr9Z F'Z N'Z) | (with_reducible (k_here; (with_reducible show wpAny _ _ (pyIter (Value.ref _)) _ _ _); refine halt ?_)) | (k_unfold; (try dsimp only)) | (k_end; kc_close) | walk1 | (dsimp only; walk1) | (leave1; (try dsimp only)) | fail "no step")
    show EndG _ _ _ _ _ _ _
    rename Fr h₀ L _ _ => F3
    rename News h₀ L _ _ => N3
    rename IsWell q ns _ => W3
    rename KBw.bInts _ = octs _ _ => hb3
    rename _ < (2 : Int) => hr2
    refine EndG.intro F3 N3 (by k_mem) (by k_allIn) (nx := [(xl, listOf (xv ++ [_]).toArray (nxi + 1)), (wl, _), (q, listOf vs.toArray nq), (od, oon), (L + 1, oc), (x, instObj 138 dx), (dx, dictOf [⟨PyData.keyHash w.params (Str.ofString "known"), .str (Str.ofString "known") tkn, .ref kd⟩] nkd), (kd, o), (hl, listOf hw.toArray nh), (al, listOf av.toArray na)]) ?_ ⟨_, _, _, _, _, _, frq2_again (x := Str.ofString "turn") (y := Str.ofString "many") (by decide) _ _ _ _ _, rfl, W3, hXi.snoc _ hb3, by rw [List.length_append, hxl]; rfl, fun bs hbs => ?_⟩
    · simp only [List.forall_mem_cons, List.not_mem_nil, false_implies, implies_true, and_true]
      exact hoI
    · rcases List.mem_append.mp hbs with h1 | h1
      · exact hx40 bs h1
      · rw [List.mem_singleton.mp h1, octs_length]
        exact Nat.le_trans (many_le (by with_reducible assumption) hr2) (by decide)
  · rintro m₁ news₁ h3 tk3 ⟨owi, xv, nxi, xks, q1, q2, rfl, rfl, hWi, hXi, hxl, hx40⟩ F6 N6
    change Fr h₀ L h3 _ at F6
    change News h₀ L h3 _ at N6
    rw [hm0] at F6
    have hxl6 : xks.length ≤ 6 := by omega
    refine seg11 (s := { s with heap := h3, toks := tk3 }) (tb := tb) (td := td) (ow := owi) (oon := oon) B F6 X XB T TB (cb_drop N6 (by kst_allIn)) n1 n2 n3 hWi iv hn hv n4 n5 n6 k1 k2 k3 k4 k5 (Nat.ne_of_gt l1.2.2.2.2.2.2.1) hsk hD hT hc hH hXi hHl hxl6 hH40 hx40 hAK hin hb0 hb1 hs hon hnd hlt hdue ?h1 ?h2 ?h3 ?h4 ?h5 ?h6 hoc hQ hd hu
    case h1 => with_unfolding_all rfl
    case h2 => with_unfolding_all rfl
    case h3 => with_unfolding_all rfl
    case h4 => with_unfolding_all rfl
    case h5 => with_unfolding_all rfl
    case h6 => with_unfolding_all rfl
end
section
open PySem.Calls
theorem pick_upto (vs : List Value) {y : Int} (h : 0 ≤ y) : (slicePick vs.toArray none (some y) none).toList = vs.take y.toNat := by
  have e : sliceBounds none (some y) none vs.toArray.size = (((0 : Nat) : Int), ((min y.toNat vs.toArray.size : Nat) : Int), 1) := by
    simp only [sliceBounds, Option.getD_none, show (1 : Int) > 0 by decide, if_true, if_neg (show ¬ (y < 0) by omega)]
    congr 1
    congr 1
    omega
  rw [kmk_pick_nat _ e]
  show (vs.drop 0).take (min y.toNat vs.toArray.size - 0) = _
  rw [List.drop_zero, Nat.sub_zero, List.size_toArray, kmk_take_min]
theorem pick_from (vs : List Value) {x : Int} (h : 0 ≤ x) : (slicePick vs.toArray (some x) none none).toList = vs.drop x.toNat := by
  have e : sliceBounds (some x) none none vs.toArray.size = (((min x.toNat vs.toArray.size : Nat) : Int), ((vs.toArray.size : Nat) : Int), 1) := by
    simp only [sliceBounds, Option.getD_none, show (1 : Int) > 0 by decide, if_true, if_neg (show ¬ (x < 0) by omega)]
    congr 1
    omega
  rw [kmk_pick_nat _ e]
  show (vs.drop (min x.toNat vs.toArray.size)).take (vs.toArray.size - min x.toNat vs.toArray.size) = _
  rw [List.size_toArray, kmk_drop_min, List.take_of_length_le (by rw [List.length_drop]; omega)]
section
variable {prog : Program} {w : World} {A : Around} {E : Value → Shared → Prop} {s : Shared} {h₀ : Heap} {L l : Addr} {m : PySem.Str → Option Value} {news : List (Addr × Obj)} {vs : List Value} {value slice : PySem.Expr} {n : Nat} {x : Int} {u : Tok} {Q : Value → Shared → Prop}
theorem list_len (N : News h₀ L s.heap news) (hm : (l, listOf vs.toArray n) ∈ news) {k : Nat} (hk : vs.length = k) (hz : k ≤ 1000) (h : ∀ t tk, Q (.int (k : Nat) t) { s with toks := tk }) : wpAny (model prog w) A (call (.builtin "len") [.ref l]) Q E s := by
  refine len_list (PySem.IsL.isList (n := n) (N _ hm).1) (by simp only [List.size_toArray]; omega) ?_
  simp only [List.size_toArray, hk]
  exact h _ _
theorem slice_upto (F : Fr h₀ L s.heap m) (N : News h₀ L s.heap news) (hm : (l, listOf vs.toArray n) ∈ news) (hx : 0 ≤ x) (hz : vs.length ≤ 1000)
    (h : ∀ D h', Fr h₀ L h' m → News h₀ L h' ((D, listOf (vs.take x.toNat).toArray 0) :: news) → (∀ p ∈ news, p.1 < D) → Q (.ref D) { s with heap := h' })
    (hs : subscripted slice false (.ref l) (.ref s.heap.objs.size) = operate [.ref s.heap.objs.size, .ref l] (getItem (.ref l) (.ref s.heap.objs.size)) := by with_unfolding_all rfl)
    (ht : ∀ r, letTemporaryGo value (.ref l) r = pure () := by intro _; with_unfolding_all rfl) :
    wpAny (model prog w) A (subscriptTail value slice (.ref l) (.ref s.heap.objs.size)) Q E { s with heap := s.heap.push { cls := .type "slice", data := .fields #[.none, .int x u, .none] } } :=
  kmk_slice_lit F N (PySem.IsL.isList (n := n) (N _ hm).1) .none (.int x u) (pick_upto vs hx) h hs ht (by rw [sizeLine_eq, List.size_toArray]; omega)
theorem slice_from (F : Fr h₀ L s.heap m) (N : News h₀ L s.heap news) (hm : (l, listOf vs.toArray n) ∈ news) (hx : 0 ≤ x) (hz : vs.length ≤ 1000)
    (h : ∀ D h', Fr h₀ L h' m → News h₀ L h' ((D, listOf (vs.drop x.toNat).toArray 0) :: news) → (∀ p ∈ news, p.1 < D) → Q (.ref D) { s with heap := h' })
    (hs : subscripted slice false (.ref l) (.ref s.heap.objs.size) = operate [.ref s.heap.objs.size, .ref l] (getItem (.ref l) (.ref s.heap.objs.size)) := by with_unfolding_all rfl)
    (ht : ∀ r, letTemporaryGo value (.ref l) r = pure () := by intro _; with_unfolding_all rfl) :
    wpAny (model prog w) A (subscriptTail value slice (.ref l) (.ref s.heap.objs.size)) Q E { s with heap := s.heap.push { cls := .type "slice", data := .fields #[.int x u, .none, .none] } } :=
  kmk_slice_lit F N (PySem.IsL.isList (n := n) (N _ hm).1) (.int x u) .none (pick_from vs hx) h hs ht (by rw [sizeLine_eq, List.size_toArray]; omega)
end
end
section
open PySem.Calls
theorem ints_of : ∀ {vs : List Value} {ns : List Int}, vs.length = ns.length → (∀ (j : Nat) (v : Value), vs[j]? = some v → ∃ (n : Int) (t : Tok), ns[j]? = some n ∧ v = .int n t) → IntsAre vs ns
  | [], [], _, _ => .nil
  | [], _ :: _, h, _ => by simp at h
  | _ :: _, [], h, _ => by simp at h
  | v :: vs, n :: ns, h, hj => by
    obtain ⟨k, t, h1, rfl⟩ := hj 0 v rfl
    cases h1
    exact .cons _ t (ints_of (by simpa using h) fun j w hw => hj (j + 1) w hw)
theorem sorted_on {w : World} {A : Around} {E : Value → Shared → Prop} {s : Shared} {h₀ : Heap} {L d : Addr} {m : PySem.Str → Option Value} {news : List (Addr × Obj)} {o : Obj} {sp : List Nat} {Q : Value → Shared → Prop}
    (hh : A.handled = none) (F : Fr h₀ L s.heap m) (N : News h₀ L s.heap news) (hm : (d, o) ∈ news) (hs : (d == sysModules) = false) (hon : IsOn w o sp) (h64 : sp.length < 64)
    (h : ∀ D ws zs c h' tk, Fr h₀ L h' m → News h₀ L h' ((D, listOf (List.toArray ws) c) :: news) → (∀ p ∈ news, p.1 < D) → IntsAre ws zs → zs.Perm (sp.map fun (p : Nat) => (p : Int)) → Q (.ref D) { s with heap := h', toks := tk }) :
    wpAny (model PySem.Challenge.rw_pq0387_01.row.prog w) A (call (.builtin "sorted") [.ref d]) Q E s := by
  obtain ⟨kvs, hdo, hf⟩ := hon
  obtain ⟨ep, hat⟩ := (Heap.dictOf_iff.mpr ⟨o, (N (d, o) hm).1, hdo⟩).dictAt
  have hkl : kvs.length = sp.length := by rw [← hf.length]; exact List.length_map ..
  refine kdu_sorted (kdl_dict (knd := PySem.intKind PySem.Challenge.rw_pq0387_01.row.prog w) (kvs := kvs) (ep := ep) hs) hh F N hat (by rw [sizeLine_eq]; omega) fun D h' tk vs F' N' l1 hl hv => ?_
  have hi : IntsAre vs (sp.map fun (p : Nat) => (p : Int)) := by
    refine ints_of (by rw [hl, hkl, List.length_map]) fun j v hj => ?_
    obtain ⟨k, x, hk, hv'⟩ := hv j v hj
    obtain ⟨p, t, hp, rfl⟩ := on_at hf hk hv'
    exact ⟨_, t, by rw [List.getElem?_map, hp]; rfl, rfl⟩
  refine ksk_lsort (news' := fun o' => (D, o') :: news) F' N' (fun o' => Upd.head fun p hp => Nat.ne_of_lt (l1 p hp)) rfl hi (by rw [List.length_map]; exact h64) fun vs' ns' c h'' F'' N'' i' _ hp _ _ => ?_
  exact h D vs' ns' c h'' _ F'' N'' l1 i' hp
end
section
open PySem.Calls
theorem drop_few {α : Type} (l : List α) (n : Nat) : (l.drop n).length ≤ l.length := by rw [List.length_drop]; omega
theorem perm_len {zs : List Int} {sp : List Nat} (h : zs.Perm (sp.map fun (p : Nat) => (p : Int))) : zs.length = sp.length := h.length_eq.trans (List.length_map ..)
theorem pow_elem {prog : Program} {w : World} {A : Around} {E : Value → Shared → Prop} {s : Shared} {Q : Value → Shared → Prop} {zs : List Int} {sp : List Nat} {k : Int} {t u : Tok} (hk : k ∈ zs) (h : zs.Perm (sp.map fun (p : Nat) => (p : Int))) (hl : ∀ p ∈ sp, p < 2048)
    (hq : Q (.int (2 ^ k.toNat) s.toks) { s with toks := s.toks + 1 }) : wpAny (model prog w) A (binaryOp .Pow (.int 2 t) (.int k u)) Q E s := by
  obtain ⟨p, hp, rfl⟩ := List.mem_map.mp (h.mem_iff.mp hk)
  have := hl p hp
  exact pow_int_small (by omega) (by omega) (by decide) hq
noncomputable def dueE (P : Params) : PySem.Expr := match lawTail P 6 with
  | .Assign _ (.Tuple (e :: _) _ _) _ :: _ => e
  | _ => default
theorem perm_sum : ∀ {l k : List Int}, l.Perm k → l.sum = k.sum := by
  intro l k h
  induction h with
  | nil => rfl
  | cons x _ ih => rw [List.sum_cons, List.sum_cons, ih]
  | swap x y l => rw [List.sum_cons, List.sum_cons, List.sum_cons, List.sum_cons]; omega
  | trans _ _ i j => exact i.trans j
theorem due_sum {zs : List Int} {sp : List Nat} (h : zs.Perm (sp.map fun (p : Nat) => (p : Int))) (hnd : sp.Nodup) : (zs.map fun k => (2 : Int) ^ k.toNat).sum = ((orAll 0 sp : Nat) : Int) := by
  rw [perm_sum (h.map _), ← sum_bits sp hnd, List.map_map]
  clear h hnd
  induction sp with
  | nil => rfl
  | cons p sp ih =>
    rw [List.map_cons, List.map_cons, List.sum_cons, List.sum_cons, ih, Int.natCast_add, Int.natCast_pow]
    rfl
set_option maxRecDepth 100000 in
set_option maxHeartbeats 1600000 in
theorem due_ok {oc : Obj} {w : World} {mean : ExcName → Option Value} {mg mb : Str → Option Value} {dp un : Nat} {gd : Option (List Code)} {fa : Addr} {cd : Value} {A₀ : Around} {base h₀ : Heap} {L : Addr} {m : Str → Option Value} {s : Shared} {Q E : Value → Shared → Prop}
    {wl q od : Addr} {ow oq oon : Obj} {rest : List (Addr × Obj)} {sp : List Nat}
    (B : Below A₀ base [] h₀) (F : Fr h₀ L s.heap m) (X : (Mine.hd.heap_39 w.params).In h₀) (T : Top hd.view_39 (looseW hd.view_39 [Str.ofString "WORD", Str.ofString "LEAST_ADDRESS"]) mean mg mb h₀)
    (N : News h₀ L s.heap ((wl, ow) :: (q, oq) :: (od, oon) :: (L + 1, oc) :: rest))
    (hs : (od == sysModules) = false) (hon : IsOn w oon sp) (hnd : sp.Nodup) (hl2 : ∀ p ∈ sp, p < 2048) (h64 : sp.length < 64) (hoc : oc.data = .cell (some (.ref od))) (hd : dp + 60 < recursionLimit) (hu : un + 600 < cLine)
    (hret : ∀ t h' tk', Fr h₀ L h' m → News h₀ L h' ((wl, ow) :: (q, oq) :: (od, oon) :: (L + 1, oc) :: rest) → Q (.int (orAll 0 sp : Nat) t) { s with heap := h', toks := tk' }) :
    wpAny (model PySem.Challenge.rw_pq0387_01.row.prog w) (ktrTop dp un gd (Str.ofString "law") (lawScope w.params) L fa cd [(Str.ofString "on", L + 1)] []) (eval (dueE w.params) (envX (Str.ofString "law") (lawScope w.params) L fa cd [(Str.ofString "on", L + 1)])) Q E s := by
  w_top off
  with_unfolding_all (show wpAny _ (ktrTop _ _ _ _ ⟨_, _, _, _, _⟩ _ _ _ _ _) (eval (Expr.Call _ _ _ _) (envX _ ⟨_, _, _, _, _⟩ _ _ _ _)) _ _ _)
  revert X; k_fill; intro X
  repeat' (first | (with_reducible (k_here; (with_reducible show LCg.CompSrc ..); k_dflt (refine LCg.CompSrc.ledger (by rfl) (by k_asm) (by k_asm) (by k_mem) (by kcf_size) ?_; intro g'Z; (refine' kcf_list _ (by first | assumption | l_ints) (fun k'Z t'Z I'Z oI'Z C'Z oC'Z D'Z m'Z ys'Z h'Z tk'Z E'Z hk'Z hC'Z hx'Z F'Z N'Z off'Z ne'Z hMark'Z => ?_) ?_); (all_goals (try (simp only [LCg.Off3, and_true] at off'Z))); kcf_last))) | (k_here; (with_reducible show LCg.CompSrc ..); k_dflt (refine LCg.CompSrc.ledger (by rfl) (by k_asm) (by k_asm) (by k_mem) (by kcf_size) ?_; intro g'Z; (refine' kcf_list _ (by first | assumption | l_ints) (fun k'Z t'Z I'Z oI'Z C'Z oC'Z D'Z m'Z ys'Z h'Z tk'Z E'Z hk'Z hC'Z hx'Z F'Z N'Z off'Z ne'Z hMark'Z => ?_) ?_); (all_goals (try (simp only [LCg.Off3, and_true] at off'Z))); kcf_last)) | (with_reducible (k_here; (with_reducible show wpAny _ _ (eval (Expr.ListComp _ _ _ _) _) _ _ _); k_dflt (refine LCg.ListComp_U (F₀ := by k_asm) (by with_unfolding_all rfl) (by decide) (by rfl) (by decide) (by rfl) ?_))) | (k_here; (with_reducible show wpAny _ _ (eval (Expr.ListComp _ _ _ _) _) _ _ _); k_dflt (refine LCg.ListComp_U (F₀ := by k_asm) (by with_unfolding_all rfl) (by decide) (by rfl) (by decide) (by rfl) ?_)) | (with_reducible (k_here; (with_reducible show wpAny _ _ (binaryOp Operator.Pow (Value.int _ _) (Value.int _ _)) _ _ _); k_dflt (refine' pow_elem ?k1ZZ ?k2ZZ ?k3ZZ ?_; (case k1ZZ => with_reducible assumption); (case k2ZZ => with_reducible assumption); (case k3ZZ => with_reducible assumption)))) | (k_here; (with_reducible show wpAny _ _ (binaryOp Operator.Pow (Value.int _ _) (Value.int _ _)) _ _ _); k_dflt (refine' pow_elem ?k1ZZ ?k2ZZ ?k3ZZ ?_; (case k1ZZ => with_reducible assumption); (case k2ZZ => with_reducible assumption); (case k3ZZ => with_reducible assumption))) | (with_reducible (k_here; (with_reducible show wpAny _ _ (call (Value.builtin "sorted") _) _ _ _); k_dflt (refine' sorted_on ?k1ZZ ?k2ZZ ?k3ZZ ?k4ZZ ?k5ZZ ?k6ZZ ?k7ZZ ?_; (case k1ZZ => rfl); (case k2ZZ => k_asm); (case k3ZZ => k_asm); (case k4ZZ => k_mem); (case k5ZZ => with_reducible assumption); (case k6ZZ => with_reducible assumption); (case k7ZZ => with_reducible assumption)); intro D9Z ws9Z zs9Z c9Z h'Z tk9Z F'Z N'Z l1Z iz9Z pz9Z; (have ez9Z := perm_len pz9Z))) | (k_here; (with_reducible show wpAny _ _ (call (Value.builtin "sorted") _) _ _ _); k_dflt (refine' sorted_on ?k1ZZ ?k2ZZ ?k3ZZ ?k4ZZ ?k5ZZ ?k6ZZ ?k7ZZ ?_; (case k1ZZ => rfl); (case k2ZZ => k_asm); (case k3ZZ => k_asm); (case k4ZZ => k_mem); (case k5ZZ => with_reducible assumption); (case k6ZZ => with_reducible assumption); (case k7ZZ => with_reducible assumption)); intro D9Z ws9Z zs9Z c9Z h'Z tk9Z F'Z N'Z l1Z iz9Z pz9Z; (have ez9Z := perm_len pz9Z)) | (with_reducible (k_here; (with_reducible show wpAny _ _ (eval (Expr.Name (Str.ofString "on") _) _) _ _ _); (with_reducible rename News _ _ _ _ => N'Z); k_dflt (refine' nameX_C N'Z ?c9ZZ ?m9ZZ ?d9ZZ ?_; (case c9ZZ => rfl); (case m9ZZ => k_mem); (case d9ZZ => with_reducible assumption)))) | (k_here; (with_reducible show wpAny _ _ (eval (Expr.Name (Str.ofString "on") _) _) _ _ _); (with_reducible rename News _ _ _ _ => N'Z); k_dflt (refine' nameX_C N'Z ?c9ZZ ?m9ZZ ?d9ZZ ?_; (case c9ZZ => rfl); (case m9ZZ => k_mem); (case d9ZZ => with_reducible assumption))) | (k_unfold; (try dsimp only)) | (k_end; kc_close) | walk1 | (dsimp only; walk1) | (leave1; (try dsimp only)) | fail "no step")
  rename (_ ≠ _ ∧ _) => o9
  rename Fr _ _ _ _ => F9
  rename News _ _ _ _ => N9
  rename _ = (_ : Nat) => _ez
  rename List.Perm _ _ => pz
  rw [due_sum pz hnd]
  exact hret _ _ _ F9 (fun p hp => N9 p (.tail _ (.tail _ hp)))
end
section
open PySem.Calls
/-- the rows' objects in a ledger -/
def RowsIn (w : World) (rest : List (Addr × Obj)) (rows : List RowD) : Prop := ∀ r ∈ rows, (r.a, instObj 103 r.d) ∈ rest ∧ (∃ k1 k2 k3 ta dv nd, (r.d, rowDict w r k1 k2 k3 ta dv nd) ∈ rest) ∧ ∃ vs nt, (r.t, listOf vs.toArray nt) ∈ rest ∧ IntsAre vs r.tops
theorem take_few {α : Type} (l : List α) (n : Nat) : (l.take n).length ≤ l.length := by rw [List.length_take]; omega
theorem bloom_rows {w : World} {mean : ExcName → Option Value} {mg mb : Str → Option Value} {dp un : Nat} {gd : Option (List Code)} {cn : Str} {cs : Scope} {a : Addr} {ccd : Value} {cl : List (Str × Addr)} {outer : List Env} {A₀ : Around} {base h₀ : Heap} {L : Addr} {m : Str → Option Value} {s : Shared} {Q E : Value → Shared → Prop} {x dx kd : Addr} {tkn : Tok} {nkd : Nat} {o : Obj} {c : List (Int × Int)} {news : List (Addr × Obj)} {news' : Obj → List (Addr × Obj)} {lg : Addr} {rows rows' : List RowD} {rest : List (Addr × Obj)} {nl : Nat} {tm : Tok} {bits : Int}
    (B : Below A₀ base outer h₀) (F : Fr h₀ L s.heap m) (X : (hd.heap_39 w.params).In h₀) (N : News h₀ L s.heap news) (T : Top hd.view_39 (looseW hd.view_39 [Str.ofString "WORD", Str.ofString "LEAST_ADDRESS"]) mean mg mb h₀) (hk : cs.kind = .function) (m1 : (x, instObj 138 dx) ∈ news) (m2 : (dx, dictOf [⟨PyData.keyHash w.params (Str.ofString "known"), .str (Str.ofString "known") tkn, .ref kd⟩] nkd) ∈ news) (m3 : (kd, o) ∈ news) (U : ∀ o', Upd kd o o' news (news' o')) (n1 : x ≠ dx) (n2 : x ≠ kd) (n3 : dx ≠ kd) (hs : (kd == sysModules) = false) (hD : Bears w o c) (hT : Tidy c) (m4 : (lg, listOf (rows'.map fun r => Value.ref r.a).toArray nl) ∈ news) (l1 : @Ne Nat lg x) (l2 : @Ne Nat lg dx) (l3 : @Ne Nat lg kd) (hrest : ∀ p ∈ rest, p ∈ news) (hR : RowsIn w rest rows) (hsub : ∀ r ∈ rows', r ∈ rows) (hlen : rows'.length ≤ rows.length)
    (r1 : ∀ p ∈ rest, p.1 ≠ x) (r2 : ∀ p ∈ rest, p.1 ≠ dx) (r3 : ∀ p ∈ rest, p.1 ≠ kd) (hr4 : rows.length ≤ 4)
    (hin : ∀ r ∈ rows, (0 ≤ r.addr ∧ r.addr < 256 ^ 20) ∧ (∀ v ∈ r.tops, 0 ≤ v ∧ v < 256 ^ 32) ∧ r.tops.length ≤ 4)
    (hc : c.length ≤ 900) (hb0 : 3 ≤ bits) (hb1 : bits ≤ 11)
    (hd : dp + 14 < recursionLimit) (hu : un + 240 < cLine)
    (hret : ∀ t o' c' h' tk', Further c c' → c'.length ≤ c.length + 20 → AllKnown c' (askAll rows') → Bears w o' c' → Fr h₀ L h' m → News h₀ L h' (news' o') → Q (.int (bloomIn c' bits (askAll rows') 0 : Nat) t) { s with heap := h', toks := tk' }) :
    wpAny (model PySem.Challenge.rw_pq0387_01.row.prog w) (ktrTop dp un gd cn cs L a ccd cl outer) (call (.ref 74) [.ref lg, .ref x, .int bits tm]) Q E s := by
  refine bloom_of_ok B F X N T hk m1 m2 m3 U n1 n2 n3 hs hD hT (N _ m4).1 ⟨l1, l2, l3, (N _ m4).2.1⟩ (fun r hr => ?_) (Nat.le_trans hlen hr4) (fun r hr => hin r (hsub r hr)) hc hb0 hb1 hd hu hret
  obtain ⟨e1, ⟨k1, k2, k3, ta, dv, nd, e2⟩, ⟨vs, nt, e3, e4⟩⟩ := hR r (hsub r hr)
  exact ⟨⟨(N _ (hrest _ e1)).1, ⟨k1, k2, k3, ta, dv, nd, (N _ (hrest _ e2)).1⟩, ⟨vs, nt, (N _ (hrest _ e3)).1, e4⟩⟩, ⟨r1 _ e1, r2 _ e1, r3 _ e1⟩, ⟨r1 _ e2, r2 _ e2, r3 _ e2⟩, ⟨r1 _ e3, r2 _ e3, r3 _ e3⟩⟩
theorem bloom_bit (c : List (Int × Int)) (bits : Int) (p : Nat) : ∀ (l : List (List Int)) (B : Nat), (bloomIn c bits l B).testBit p = (B.testBit p || decide (∃ bs ∈ l, p ∈ spotsOf c bits bs))
  | [], B => by
    show B.testBit p = _
    simp
  | bs :: l, B => by
    show (bloomIn c bits l (orAll B (spotsOf c bits bs))).testBit p = _
    rw [bloom_bit c bits p l, orAll_bit, Bool.or_assoc]
    congr 1
    rw [← Bool.decide_or]
    refine decide_eq_decide.mpr ⟨fun h => ?_, fun h => ?_⟩
    · rcases h with h | ⟨b, hb, h⟩
      · exact ⟨bs, .head _, h⟩
      · exact ⟨b, .tail _ hb, h⟩
    · obtain ⟨b, hb, h⟩ := h
      rcases List.mem_cons.mp hb with rfl | hb
      · exact .inl h
      · exact .inr ⟨b, hb, h⟩
theorem bloom_all {c : List (Int × Int)} {bits : Int} {l : List (List Int)} {sp : List Nat} (hsp : ∀ p, p ∈ sp ↔ ∃ bs ∈ l, p ∈ spotsOf c bits bs) : bloomIn c bits l 0 = orAll 0 sp := by
  refine Nat.eq_of_testBit_eq fun p => ?_
  rw [bloom_bit, orAll_bit]
  congr 1
  exact decide_eq_decide.mpr (hsp p).symm
theorem bloom_due {c c1 : List (Int × Int)} {bits : Int} {l : List (List Int)} {sp : List Nat} (hsp : ∀ p, p ∈ sp ↔ ∃ bs ∈ l, p ∈ spotsOf c bits bs) (hk : AllKnown c l) (f1 : Further c c1) : bloomIn c1 bits l 0 = orAll 0 sp := by
  rw [bloom_more f1 l 0 hk, bloom_all hsp]
theorem ask_cut (rows : List RowD) (n : Nat) : askAll (rows.take n) ++ askAll (rows.drop n) = askAll rows := by
  unfold askAll
  rw [← List.flatMap_append, List.take_append_drop]
theorem bloom_two {c c1 c2 : List (Int × Int)} {bits : Int} {rows : List RowD} {sp : List Nat} (n : Nat) (hsp : ∀ p, p ∈ sp ↔ ∃ bs ∈ askAll rows, p ∈ spotsOf c bits bs) (hk : AllKnown c (askAll rows)) (f1 : Further c c1) (f2 : Further c c2) :
    bloomIn c1 bits (askAll (rows.take n)) 0 ||| bloomIn c2 bits (askAll (rows.drop n)) 0 = orAll 0 sp := by
  have e := ask_cut rows n
  have h1 : AllKnown c (askAll (rows.take n)) := fun b hb => hk b (e ▸ List.mem_append.mpr (.inl hb))
  have h2 : AllKnown c (askAll (rows.drop n)) := fun b hb => hk b (e ▸ List.mem_append.mpr (.inr hb))
  rw [bloom_more f1 _ 0 h1, bloom_more f2 _ 0 h2]
  refine Nat.eq_of_testBit_eq fun p => ?_
  rw [Nat.testBit_or, bloom_bit, bloom_bit, orAll_bit, Nat.zero_testBit, Bool.false_or, Bool.false_or, Bool.false_or, ← Bool.decide_or]
  refine decide_eq_decide.mpr ⟨fun h => ?_, fun h => ?_⟩
  · rw [hsp p, ← e]
    rcases h with ⟨b, hb, h⟩ | ⟨b, hb, h⟩
    · exact ⟨b, List.mem_append.mpr (.inl hb), h⟩
    · exact ⟨b, List.mem_append.mpr (.inr hb), h⟩
  · rw [hsp p, ← e] at h
    obtain ⟨b, hb, h⟩ := h
    rcases List.mem_append.mp hb with hb | hb
    · exact .inl ⟨b, hb, h⟩
    · exact .inr ⟨b, hb, h⟩
set_option maxRecDepth 100000 in
set_option maxHeartbeats 1000000 in
theorem seg6 {oc : Obj} {w : World} {mean : ExcName → Option Value} {mg mb : Str → Option Value} {dp un : Nat} {gd : Option (List Code)} {fa : Addr} {cd : Value} {A₀ : Around} {base h₀ : Heap} {L : Addr} {m : Str → Option Value} {s : Shared} {Q : Flow → Shared → Prop} {wl q od x dx kd hl al rl : Addr} {vs hw av : List Value} {ns as : List Int} {nq nkd nh na nr : Nat} {ow oon o : Obj} {tkn : Tok} {c : List (Int × Int)} {rows : List RowD} {rest : List (Addr × Obj)} {bits : Int} {sp : List Nat} {tb : Tok}
    (B : Below A₀ base [] h₀) (F : Fr h₀ L s.heap m) (X : (Mine.hd.heap_39 w.params).In h₀) (XB : (Mine.hd.heap_39 w.params).In base) (T : Top hd.view_39 (looseW hd.view_39 [Str.ofString "WORD", Str.ofString "LEAST_ADDRESS"]) mean mg mb h₀) (TB : Top hd.view_39 (looseW hd.view_39 [Str.ofString "WORD", Str.ofString "LEAST_ADDRESS"]) mean mg mb base) (N : News h₀ L s.heap ((wl, ow) :: (q, listOf vs.toArray nq) :: (od, oon) :: (L + 1, oc) :: (x, instObj 138 dx) :: (dx, dictOf [⟨PyData.keyHash w.params (Str.ofString "known"), .str (Str.ofString "known") tkn, .ref kd⟩] nkd) :: (kd, o) :: (hl, listOf hw.toArray nh) :: (al, listOf av.toArray na) :: (rl, listOf (rows.map fun r => Value.ref r.a).toArray nr) :: rest))
    (hR : RowsIn w rest rows) (r1 : ∀ p ∈ rest, p.1 ≠ x) (r2 : ∀ p ∈ rest, p.1 ≠ dx) (r3 : ∀ p ∈ rest, p.1 ≠ kd) (r4 : ∀ p ∈ rest, p.1 ≠ wl) (r5 : @Ne Nat rl x) (r6 : @Ne Nat rl dx) (r7 : @Ne Nat rl kd) (r8 : @Ne Nat rl wl)
    (n1 : q ≠ wl) (n2 : od ≠ wl) (n3 : od ≠ q) (w1 : @Ne Nat (L + 1) wl) (w2 : @Ne Nat x wl) (w3 : @Ne Nat dx wl) (w4 : @Ne Nat hl wl) (w5 : al ≠ wl) (hW : IsWell q ns ow) (iv : IntsAre vs ns) (hn : ns.length ≤ 60) (hv : ∀ v ∈ ns, 0 ≤ v ∧ v < 2147483647)
    (iav : IntsAre av as) (han : as.length ≤ 100) (hav : ∀ v ∈ as, 0 ≤ v ∧ v < 256 ^ 32)
    (n4 : x ≠ dx) (n5 : x ≠ kd) (n6 : dx ≠ kd) (k1 : wl ≠ kd) (k2 : q ≠ kd) (k3 : od ≠ kd) (k4 : L + 1 ≠ kd) (k5 : hl ≠ kd) (k6 : @Ne Nat al kd) (hsk : (kd == sysModules) = false) (hD : Bears w o c) (hT : Tidy c) (hc : c.length ≤ 700)
    (hr4 : rows.length ≤ 4) (hin : ∀ r ∈ rows, (0 ≤ r.addr ∧ r.addr < 256 ^ 20) ∧ (∀ v ∈ r.tops, 0 ≤ v ∧ v < 256 ^ 32) ∧ r.tops.length ≤ 4)
    (hH : BytesAre hw (askAll rows)) (hHl : (askAll rows).length ≤ 20) (hH40 : ∀ bs ∈ askAll rows, bs.length ≤ 40) (hAK : AllKnown c (askAll rows)) (hsp : ∀ p, p ∈ sp ↔ ∃ bs ∈ askAll rows, p ∈ spotsOf c bits bs) (h64 : sp.length < 64)
    (hb0 : 3 ≤ bits) (hb1 : bits ≤ 11) (hs : (od == sysModules) = false) (hon : IsOn w oon sp) (hnd : sp.Nodup)
    (v1 : m (Str.ofString "well") = some (.ref wl)) (v2 : m (Str.ofString "bits") = some (.int bits tb)) (v4 : m (Str.ofString "digester") = some (.ref x)) (v5 : m (Str.ofString "held") = some (.ref hl)) (v6 : m (Str.ofString "ahead") = some (.ref al)) (v7 : m (Str.ofString "rows") = some (.ref rl))
    (hoc : oc.data = .cell (some (.ref od))) (hQ : ∀ h' tk' m', Fr h₀ L h' m' → Q (.ret (.bool true)) { s with heap := h', toks := tk' }) (hd : dp + 60 < recursionLimit) (hu : un + 600 < cLine) : wpAny (model PySem.Challenge.rw_pq0387_01.row.prog w) (ktrTop dp un gd (Str.ofString "law") (lawScope w.params) L fa cd [(Str.ofString "on", L + 1)] []) (execs (lawTail w.params 6) (envX (Str.ofString "law") (lawScope w.params) L fa cd [(Str.ofString "on", L + 1)])) Q (fun _ _ => False) s := by
  w_top off
  replace k1 := nN k1
  replace n5 := nN n5
  replace n6 := nN n6
  replace k2 := nN k2
  replace k3 := nN k3
  replace k4 := nN k4
  replace k5 := nN k5
  have hrz : (rows.map fun r => Value.ref r.a).length ≤ 1000 := by rw [List.length_map]; omega
  have n1' := nN n1
  have n2' := nN n2
  have w5' := nN w5
  have hlt : ∀ p ∈ sp, p < 2 ^ bits.toNat := fun p hp => by
    obtain ⟨bs, _, h1⟩ := (hsp p).mp hp
    exact spots_lt p h1
  have hl2 : ∀ p ∈ sp, p < 2048 := fun p hp => by
    have h1 := hlt p hp
    have h2 : (2 : Nat) ^ bits.toNat ≤ 2 ^ 11 := Nat.pow_le_pow_right (by decide) (by omega)
    have h4 : (2 : Nat) ^ 11 = 2048 := by decide
    omega
  replace F := frSees F (.cons v1 (.cons v2 (.cons v4 (.cons v5 (.cons v6 (.cons v7 (.nil)))))))
  simp only [ovr] at F
  clear v1 v2 v4 v5 v6 v7
  with_unfolding_all (show wpAny _ (ktrTop _ _ _ _ ⟨_, _, _, _, _⟩ _ _ _ _ _) (execs (_ :: _) (envX _ ⟨_, _, _, _, _⟩ _ _ _ _)) _ _ _)
  revert X; k_fill; intro X
  repeat' (first | (with_reducible (k_here; (with_reducible show wpAny _ _ (execs (Stmt.Assign [Expr.Name (Str.ofString "others") _] _ _ :: _) _) _ _ _); refine halt ?_)) | (with_reducible (k_here; (with_reducible show wpAny _ _ (call (Value.ref 74) _) _ _ _); k_dflt (refine' bloom_rows ?BZZ ?FZZ ?XZZ ?NZZ ?TZZ ?hkZZ ?m1ZZ ?m2ZZ ?m3ZZ ?UZZ ?n1ZZ ?n2ZZ ?n3ZZ ?hsZZ ?hDZZ ?hTZZ ?m4ZZ ?l1ZZ ?l2ZZ ?l3ZZ ?hrestZZ ?hRZZ ?hsubZZ ?hlenZZ ?r1ZZ ?r2ZZ ?r3ZZ ?hr4ZZ ?hinZZ ?hcZZ ?hb0ZZ ?hb1ZZ ?hdZZ ?huZZ ?_; (case BZZ => k_asm); (case FZZ => k_asm); (case XZZ => k_asm); (case NZZ => k_asm); (case TZZ => k_asm); (case hkZZ => first | exact rfl | assumption); (case hRZZ => assumption); (case m4ZZ => k_mem); (case hrestZZ => (intro pZ hpZ; repeat (first | exact hpZ | apply List.Mem.tail))); (case m1ZZ => k_mem); (case m2ZZ => k_mem); (case m3ZZ => k_mem); (case UZZ => intro o'Z; k_upd); (case n1ZZ => assumption); (case n2ZZ => assumption); (case n3ZZ => assumption); (case hsZZ => assumption); (case hDZZ => assumption); (case hTZZ => assumption); (case l1ZZ => omega); (case l2ZZ => omega); (case l3ZZ => omega); (case hsubZZ => (first | exact fun _ hZ => hZ | exact fun _ hZ => List.mem_of_mem_take hZ | exact fun _ hZ => List.mem_of_mem_drop hZ)); (case hlenZZ => (first | exact Nat.le_refl _ | exact take_few _ _ | exact drop_few _ _)); (case r1ZZ => assumption); (case r2ZZ => assumption); (case r3ZZ => assumption); (case hr4ZZ => assumption); (case hinZZ => assumption); (case hcZZ => omega); (case hb0ZZ => assumption); (case hb1ZZ => assumption); (case hdZZ => ktr_room); (case huZZ => ktr_units)); intro t9Z o9Z c9Z h'Z tk'Z hFu9Z hcl9Z hAK9Z hD9Z F'Z N'Z; (have hT9Z := fur_tidy hFu9Z); (try dsimp only))) | (k_here; (with_reducible show wpAny _ _ (call (Value.ref 74) _) _ _ _); k_dflt (refine' bloom_rows ?BZZ ?FZZ ?XZZ ?NZZ ?TZZ ?hkZZ ?m1ZZ ?m2ZZ ?m3ZZ ?UZZ ?n1ZZ ?n2ZZ ?n3ZZ ?hsZZ ?hDZZ ?hTZZ ?m4ZZ ?l1ZZ ?l2ZZ ?l3ZZ ?hrestZZ ?hRZZ ?hsubZZ ?hlenZZ ?r1ZZ ?r2ZZ ?r3ZZ ?hr4ZZ ?hinZZ ?hcZZ ?hb0ZZ ?hb1ZZ ?hdZZ ?huZZ ?_; (case BZZ => k_asm); (case FZZ => k_asm); (case XZZ => k_asm); (case NZZ => k_asm); (case TZZ => k_asm); (case hkZZ => first | exact rfl | assumption); (case hRZZ => assumption); (case m4ZZ => k_mem); (case hrestZZ => (intro pZ hpZ; repeat (first | exact hpZ | apply List.Mem.tail))); (case m1ZZ => k_mem); (case m2ZZ => k_mem); (case m3ZZ => k_mem); (case UZZ => intro o'Z; k_upd); (case n1ZZ => assumption); (case n2ZZ => assumption); (case n3ZZ => assumption); (case hsZZ => assumption); (case hDZZ => assumption); (case hTZZ => assumption); (case l1ZZ => omega); (case l2ZZ => omega); (case l3ZZ => omega); (case hsubZZ => (first | exact fun _ hZ => hZ | exact fun _ hZ => List.mem_of_mem_take hZ | exact fun _ hZ => List.mem_of_mem_drop hZ)); (case hlenZZ => (first | exact Nat.le_refl _ | exact take_few _ _ | exact drop_few _ _)); (case r1ZZ => assumption); (case r2ZZ => assumption); (case r3ZZ => assumption); (case hr4ZZ => assumption); (case hinZZ => assumption); (case hcZZ => omega); (case hb0ZZ => assumption); (case hb1ZZ => assumption); (case hdZZ => ktr_room); (case huZZ => ktr_units)); intro t9Z o9Z c9Z h'Z tk'Z hFu9Z hcl9Z hAK9Z hD9Z F'Z N'Z; (have hT9Z := fur_tidy hFu9Z); (try dsimp only)) | (with_reducible (k_here; (with_reducible show wpAny _ _ (subscriptTail _ (Expr.Slice _ none none _) (Value.ref _) (Value.ref _)) _ _ _); k_dflt (refine' slice_from ?FZZ ?NZZ ?lZZ ?pZZ ?qZZ ?_; (case FZZ => k_asm); (case NZZ => k_asm); (case lZZ => k_mem); (case pZZ => with_reducible assumption); (case qZZ => with_reducible assumption)); intro D9Z h'Z F'Z N'Z l1Z; (try k_lt l1Z); (try simp only [← List.map_take, ← List.map_drop] at N'Z))) | (k_here; (with_reducible show wpAny _ _ (subscriptTail _ (Expr.Slice _ none none _) (Value.ref _) (Value.ref _)) _ _ _); k_dflt (refine' slice_from ?FZZ ?NZZ ?lZZ ?pZZ ?qZZ ?_; (case FZZ => k_asm); (case NZZ => k_asm); (case lZZ => k_mem); (case pZZ => with_reducible assumption); (case qZZ => with_reducible assumption)); intro D9Z h'Z F'Z N'Z l1Z; (try k_lt l1Z); (try simp only [← List.map_take, ← List.map_drop] at N'Z)) | (with_reducible (k_here; (with_reducible show wpAny _ _ (subscriptTail _ (Expr.Slice none _ none _) (Value.ref _) (Value.ref _)) _ _ _); k_dflt (refine' slice_upto ?FZZ ?NZZ ?lZZ ?pZZ ?qZZ ?_; (case FZZ => k_asm); (case NZZ => k_asm); (case lZZ => k_mem); (case pZZ => with_reducible assumption); (case qZZ => with_reducible assumption)); intro D9Z h'Z F'Z N'Z l1Z; (try k_lt l1Z); (try simp only [← List.map_take, ← List.map_drop] at N'Z))) | (k_here; (with_reducible show wpAny _ _ (subscriptTail _ (Expr.Slice none _ none _) (Value.ref _) (Value.ref _)) _ _ _); k_dflt (refine' slice_upto ?FZZ ?NZZ ?lZZ ?pZZ ?qZZ ?_; (case FZZ => k_asm); (case NZZ => k_asm); (case lZZ => k_mem); (case pZZ => with_reducible assumption); (case qZZ => with_reducible assumption)); intro D9Z h'Z F'Z N'Z l1Z; (try k_lt l1Z); (try simp only [← List.map_take, ← List.map_drop] at N'Z)) | (with_reducible (k_here; (with_reducible show wpAny _ _ (call (Value.builtin "len") _) _ _ _); k_dflt (refine' list_len ?k1ZZ ?k2ZZ ?k3ZZ ?k4ZZ ?_; (case k1ZZ => k_asm); (case k2ZZ => k_mem); (case k3ZZ => exact List.length_map ..); (case k4ZZ => omega)); intro t9Z k9Z)) | (k_here; (with_reducible show wpAny _ _ (call (Value.builtin "len") _) _ _ _); k_dflt (refine' list_len ?k1ZZ ?k2ZZ ?k3ZZ ?k4ZZ ?_; (case k1ZZ => k_asm); (case k2ZZ => k_mem); (case k3ZZ => exact List.length_map ..); (case k4ZZ => omega)); intro t9Z k9Z) | (with_reducible (k_here; (with_reducible show wpAny _ _ (call (Value.ref 154) _) _ _ _); k_dflt (refine' draw_ok ?BZZ ?FZZ ?XZZ ?NZZ ?TZZ ?hkZZ ?m1ZZ ?m2ZZ ?hWZZ ?UZZ ?hqZZ ?ivZZ ?hnZZ ?hvZZ ?hz0ZZ ?hz1ZZ ?hdZZ ?huZZ ?_; (case BZZ => k_asm); (case FZZ => k_asm); (case XZZ => k_asm); (case NZZ => k_asm); (case TZZ => k_asm); (case hkZZ => first | exact rfl | assumption); (case hWZZ => assumption); (case m1ZZ => k_mem); (case m2ZZ => k_mem); (case UZZ => intro o'Z; k_upd); (case hqZZ => assumption); (case ivZZ => assumption); (case hnZZ => assumption); (case hvZZ => assumption); (case hz0ZZ => omega); (case hz1ZZ => omega); (case hdZZ => ktr_room); (case huZZ => ktr_units)); intro r9Z t9Z o9Z h'Z tk'Z hr0Z hr1Z hW'Z F'Z N'Z; (try dsimp only))) | (k_here; (with_reducible show wpAny _ _ (call (Value.ref 154) _) _ _ _); k_dflt (refine' draw_ok ?BZZ ?FZZ ?XZZ ?NZZ ?TZZ ?hkZZ ?m1ZZ ?m2ZZ ?hWZZ ?UZZ ?hqZZ ?ivZZ ?hnZZ ?hvZZ ?hz0ZZ ?hz1ZZ ?hdZZ ?huZZ ?_; (case BZZ => k_asm); (case FZZ => k_asm); (case XZZ => k_asm); (case NZZ => k_asm); (case TZZ => k_asm); (case hkZZ => first | exact rfl | assumption); (case hWZZ => assumption); (case m1ZZ => k_mem); (case m2ZZ => k_mem); (case UZZ => intro o'Z; k_upd); (case hqZZ => assumption); (case ivZZ => assumption); (case hnZZ => assumption); (case hvZZ => assumption); (case hz0ZZ => omega); (case hz1ZZ => omega); (case hdZZ => ktr_room); (case huZZ => ktr_units)); intro r9Z t9Z o9Z h'Z tk'Z hr0Z hr1Z hW'Z F'Z N'Z; (try dsimp only)) | (with_reducible (k_here; (with_reducible show wpAny _ _ (eval (Expr.Call (Expr.Name (Str.ofString "sum") _) _ _ _) _) _ _ _); k_dflt (refine' due_ok ?BZZ ?FZZ ?XZZ ?TZZ ?NZZ ?hsZZ ?honZZ ?hndZZ ?hl2ZZ ?h64ZZ ?hocZZ ?hdZZ ?huZZ ?_; (case BZZ => k_asm); (case FZZ => k_asm); (case XZZ => k_asm); (case TZZ => k_asm); (case NZZ => k_asm); (case hsZZ => with_reducible assumption); (case honZZ => with_reducible assumption); (case hndZZ => with_reducible assumption); (case hl2ZZ => with_reducible assumption); (case h64ZZ => with_reducible assumption); (case hocZZ => with_reducible assumption); (case hdZZ => ktr_room); (case huZZ => ktr_units)); intro t9Z h'Z tk'Z F'Z N'Z; (try dsimp only))) | (k_here; (with_reducible show wpAny _ _ (eval (Expr.Call (Expr.Name (Str.ofString "sum") _) _ _ _) _) _ _ _); k_dflt (refine' due_ok ?BZZ ?FZZ ?XZZ ?TZZ ?NZZ ?hsZZ ?honZZ ?hndZZ ?hl2ZZ ?h64ZZ ?hocZZ ?hdZZ ?huZZ ?_; (case BZZ => k_asm); (case FZZ => k_asm); (case XZZ => k_asm); (case TZZ => k_asm); (case NZZ => k_asm); (case hsZZ => with_reducible assumption); (case honZZ => with_reducible assumption); (case hndZZ => with_reducible assumption); (case hl2ZZ => with_reducible assumption); (case h64ZZ => with_reducible assumption); (case hocZZ => with_reducible assumption); (case hdZZ => ktr_room); (case huZZ => ktr_units)); intro t9Z h'Z tk'Z F'Z N'Z; (try dsimp only)) | (with_reducible (k_here; (with_reducible show wpAny _ _ (eval (Expr.Name (Str.ofString "on") _) _) _ _ _); (with_reducible rename News _ _ _ _ => N'Z); k_dflt (refine' nameX_C N'Z ?c9ZZ ?m9ZZ ?d9ZZ ?_; (case c9ZZ => rfl); (case m9ZZ => k_mem); (case d9ZZ => with_reducible assumption)))) | (k_here; (with_reducible show wpAny _ _ (eval (Expr.Name (Str.ofString "on") _) _) _ _ _); (with_reducible rename News _ _ _ _ => N'Z); k_dflt (refine' nameX_C N'Z ?c9ZZ ?m9ZZ ?d9ZZ ?_; (case c9ZZ => rfl); (case m9ZZ => k_mem); (case d9ZZ => with_reducible assumption))) | (k_unfold; (try dsimp only)) | (k_end; kc_close) | walk1 | (dsimp only; walk1) | (leave1; (try dsimp only)) | fail "no step")
  · exfalso
    rename ((_ : Nat) : Int) ≠ _ => a9
    rename Further c _ => f1
    exact a9 (congrArg (fun (n : Nat) => (n : Int)) (bloom_due hsp hAK f1))
  · exfalso
    rename Builtin.bitOr _ _ ≠ _ => a9
    rename Further c _ => f1
    rename Further _ _ => f3
    rw [bitOr_nat] at a9
    exact a9 (congrArg (fun (n : Nat) => (n : Int)) (bloom_two _ hsp hAK (f1.trans (by assumption)) ((f1.trans (by assumption)).trans f3)))
  · refine (?_ : wpAny _ _ _ _ _ _)
    rename Further c _ => f1
    rename Further _ _ => f3
    rename Bears w _ _ => hD9
    rename Fr h₀ L _ _ => F9
    rename News h₀ L _ _ => N9
    rename IsWell q ns _ => hW9
    have f2 : Further c _ := (f1.trans (by assumption)).trans f3
    refine seg9 (s := { s with heap := _, toks := _ }) (tb := tb) (td := ?td) (c := _) (hks := askAll rows) (sp := sp) (due := orAll 0 sp) B F9 X XB T TB (cb_drop N9 (by kst_allIn)) n1 n2 n3 w1 w2 w3 w4 w5 hW9 iv hn hv (by assumption) han hav n4 n5 n6 k1 k2 k3 k4 k5 hsk hD9 (fur_tidy f3) (by omega) hH hHl hH40 (hAK.more f2) (fun bs hbs p hp => ?_) hb0 hb1 hs hon hnd hlt rfl ?h1 ?h2 ?h3 ?h4 ?h5 ?h6 hoc hQ hd hu
    case h1 => with_unfolding_all rfl
    case h2 => with_unfolding_all rfl
    case h3 => with_unfolding_all rfl
    case h4 => with_unfolding_all rfl
    case h5 => with_unfolding_all rfl
    case h6 => with_unfolding_all rfl
    rw [spots_more (hAK bs hbs) f2] at hp
    exact (hsp p).mpr ⟨bs, hbs, hp⟩
end
section
open PySem.Calls
noncomputable def addAll (sp : List Nat) : List Nat → List Nat
  | [] => sp
  | p :: l => addAll (addSp sp p) l
theorem addAll_mem : ∀ (l sp : List Nat) (r : Nat), r ∈ addAll sp l ↔ r ∈ sp ∨ r ∈ l
  | [], sp, r => by
    show r ∈ sp ↔ _
    simp
  | p :: l, sp, r => by
    show r ∈ addAll (addSp sp p) l ↔ _
    rw [addAll_mem l, addSp_mem, List.mem_cons, or_assoc]
theorem addAll_nodup : ∀ (l sp : List Nat), sp.Nodup → (addAll sp l).Nodup
  | [], sp, h => h
  | p :: l, sp, h => addAll_nodup l _ (addSp_nodup h p)
theorem addAll_length : ∀ (l sp : List Nat), (addAll sp l).length ≤ sp.length + l.length
  | [], sp => Nat.le_refl _
  | p :: l, sp => by
    show (addAll (addSp sp p) l).length ≤ sp.length + (l.length + 1)
    have h1 := addAll_length l (addSp sp p)
    have h2 := addSp_length sp p
    omega
theorem addAll_snoc : ∀ (l sp : List Nat) (p : Nat), addAll sp (l ++ [p]) = addSp (addAll sp l) p
  | [], sp, p => rfl
  | r :: l, sp, p => addAll_snoc l (addSp sp r) p
theorem spots_named {h₀ h : Heap} {L l kd : Addr} {p1 p2 p3 : Nat} {t1 t2 t3 : Tok} {nl : Nat} {e1 e2 e3 e4 e5 e6 e7 : Addr × Obj} {o : Obj} {rest : List (Addr × Obj)} (N : News h₀ L h ((l, listOf #[Value.int (p1 : Int) t1, Value.int (p2 : Int) t2, Value.int (p3 : Int) t3] nl) :: e1 :: e2 :: e3 :: e4 :: e5 :: e6 :: e7 :: (kd, o) :: rest)) :
    ∃ (l9 : Addr) (nl9 p1' p2' p3' : Nat) (t1' t2' t3' : Tok) (o9 : Obj), l9 = l ∧ nl9 = nl ∧ p1' = p1 ∧ p2' = p2 ∧ p3' = p3 ∧ t1' = t1 ∧ t2' = t2 ∧ t3' = t3 ∧ o9 = o := ⟨_, _, _, _, _, _, _, _, _, rfl, rfl, rfl, rfl, rfl, rfl, rfl, rfl, rfl⟩
/-- what holds ahead of a turn of the marking -/
structure Marked (w : World) (c : List (Int × Int)) (hks : List (List Int)) (bits : Int) (i : Nat) (oi : Obj) (ci : List (Int × Int)) (ooi : Obj) (spi : List Nat) : Prop where
  bear : Bears w oi ci
  fu : Further c ci
  len : ci.length ≤ c.length + i
  on : IsOn w ooi spi
  nd : spi.Nodup
  few : spi.length ≤ 3 * i
  kn : AllKnown ci (hks.take i)
  sp : ∀ p, p ∈ spi ↔ ∃ bs ∈ hks.take i, p ∈ spotsOf ci bits bs
theorem Marked.start {w : World} {c : List (Int × Int)} {hks : List (List Int)} {bits : Int} {o oon : Obj} (hT : Tidy c) (hD : Bears w o c) (ho : IsOn w oon []) : Marked w c hks bits 0 o c oon [] :=
  ⟨hD, Further.refl hT, Nat.le_refl _, ho, List.nodup_nil, Nat.le_refl _, fun _ h => (nomatch h), fun p => ⟨fun h => (nomatch h), fun ⟨_, h, _⟩ => (nomatch h)⟩⟩
theorem Marked.step {w : World} {c ci c' : List (Int × Int)} {hks : List (List Int)} {bits n : Int} {i : Nat} {oi o' ooi oo' : Obj} {spi l : List Nat} {bs : List Int} (M : Marked w c hks bits i oi ci ooi spi) (hi : hks[i]? = some bs) (hK : Knows c' (keyOf bs) n) (f : Further ci c') (hl : c'.length ≤ ci.length + 1) (hD : Bears w o' c')
    (e : spots (digOct n) bits = l) (h3 : l.length ≤ 3) (ho : IsOn w oo' (addAll spi l)) : Marked w c hks bits (i + 1) o' c' oo' (addAll spi l) := by
  have et : hks.take (i + 1) = hks.take i ++ [bs] := by rw [List.take_add_one, hi]; rfl
  have en : spotsOf c' bits bs = l := by
    unfold spotsOf
    rw [show numIn c' bs = n from (agree ⟨hK.1, rfl⟩ (Further.refl f.1) hK), e]
  refine ⟨hD, M.fu.trans f, by have := M.len; omega, ho, addAll_nodup _ _ M.nd, by have := addAll_length l spi; have := M.few; omega, fun b hb => ?_, fun p => ?_⟩
  · rw [et] at hb
    rcases List.mem_append.mp hb with hb | hb
    · exact M.kn.more f b hb
    · rw [List.mem_singleton.mp hb]; exact hK.1
  · rw [addAll_mem, M.sp p, et]
    refine ⟨fun h => ?_, fun h => ?_⟩
    · rcases h with ⟨b, hb, h⟩ | h
      · exact ⟨b, List.mem_append.mpr (.inl hb), by rw [spots_more (M.kn b hb) f]; exact h⟩
      · exact ⟨bs, List.mem_append.mpr (.inr (.head _)), by rw [en]; exact h⟩
    · obtain ⟨b, hb, h⟩ := h
      rcases List.mem_append.mp hb with hb | hb
      · exact .inl ⟨b, hb, by rw [spots_more (M.kn b hb) f] at h; exact h⟩
      · rw [List.mem_singleton.mp hb, en] at h
        exact .inr h
set_option maxRecDepth 100000 in
set_option maxHeartbeats 1000000 in
theorem seg5 {oc : Obj} {w : World} {mean : ExcName → Option Value} {mg mb : Str → Option Value} {dp un : Nat} {gd : Option (List Code)} {fa : Addr} {cd : Value} {A₀ : Around} {base h₀ : Heap} {L : Addr} {m : Str → Option Value} {s : Shared} {Q : Flow → Shared → Prop} {wl q od x dx kd hl al rl : Addr} {vs hw av : List Value} {ns as : List Int} {nq nkd nh na nr : Nat} {ow oon o : Obj} {tkn : Tok} {c : List (Int × Int)} {rows : List RowD} {rest : List (Addr × Obj)} {bits : Int} {tb : Tok}
    (B : Below A₀ base [] h₀) (F : Fr h₀ L s.heap m) (X : (Mine.hd.heap_39 w.params).In h₀) (XB : (Mine.hd.heap_39 w.params).In base) (T : Top hd.view_39 (looseW hd.view_39 [Str.ofString "WORD", Str.ofString "LEAST_ADDRESS"]) mean mg mb h₀) (TB : Top hd.view_39 (looseW hd.view_39 [Str.ofString "WORD", Str.ofString "LEAST_ADDRESS"]) mean mg mb base) (N : News h₀ L s.heap ((wl, ow) :: (q, listOf vs.toArray nq) :: (od, oon) :: (L + 1, oc) :: (x, instObj 138 dx) :: (dx, dictOf [⟨PyData.keyHash w.params (Str.ofString "known"), .str (Str.ofString "known") tkn, .ref kd⟩] nkd) :: (kd, o) :: (hl, listOf hw.toArray nh) :: (al, listOf av.toArray na) :: (rl, listOf (rows.map fun r => Value.ref r.a).toArray nr) :: rest))
    (hR : RowsIn w rest rows) (r1 : ∀ p ∈ rest, p.1 ≠ x) (r2 : ∀ p ∈ rest, p.1 ≠ dx) (r3 : ∀ p ∈ rest, p.1 ≠ kd) (r4 : ∀ p ∈ rest, p.1 ≠ wl) (r5 : @Ne Nat rl x) (r6 : @Ne Nat rl dx) (r7 : @Ne Nat rl kd) (r8 : @Ne Nat rl wl)
    (r9 : ∀ p ∈ rest, p.1 ≠ od) (d1 : @Ne Nat (L + 1) od) (d2 : @Ne Nat x od) (d3 : @Ne Nat dx od) (d4 : @Ne Nat hl od) (d5 : @Ne Nat al od) (d6 : @Ne Nat rl od)
    (n1 : q ≠ wl) (n2 : od ≠ wl) (n3 : od ≠ q) (w1 : @Ne Nat (L + 1) wl) (w2 : @Ne Nat x wl) (w3 : @Ne Nat dx wl) (w4 : @Ne Nat hl wl) (w5 : al ≠ wl) (hW : IsWell q ns ow) (iv : IntsAre vs ns) (hn : ns.length ≤ 60) (hv : ∀ v ∈ ns, 0 ≤ v ∧ v < 2147483647)
    (iav : IntsAre av as) (han : as.length ≤ 100) (hav : ∀ v ∈ as, 0 ≤ v ∧ v < 256 ^ 32)
    (n4 : x ≠ dx) (n5 : x ≠ kd) (n6 : dx ≠ kd) (k1 : wl ≠ kd) (k2 : q ≠ kd) (k3 : od ≠ kd) (k4 : L + 1 ≠ kd) (k5 : hl ≠ kd) (k6 : @Ne Nat al kd) (hsk : (kd == sysModules) = false) (hD : Bears w o c) (hT : Tidy c) (hc : c.length ≤ 600)
    (hr4 : rows.length ≤ 4) (hin : ∀ r ∈ rows, (0 ≤ r.addr ∧ r.addr < 256 ^ 20) ∧ (∀ v ∈ r.tops, 0 ≤ v ∧ v < 256 ^ 32) ∧ r.tops.length ≤ 4)
    (hH : BytesAre hw (askAll rows)) (hHl : (askAll rows).length ≤ 20) (hH40 : ∀ bs ∈ askAll rows, bs.length ≤ 40)
    (hb0 : 3 ≤ bits) (hb1 : bits ≤ 11) (hs : (od == sysModules) = false) (hon : IsOn w oon [])
    (v1 : m (Str.ofString "well") = some (.ref wl)) (v2 : m (Str.ofString "bits") = some (.int bits tb)) (v4 : m (Str.ofString "digester") = some (.ref x)) (v5 : m (Str.ofString "held") = some (.ref hl)) (v6 : m (Str.ofString "ahead") = some (.ref al)) (v7 : m (Str.ofString "rows") = some (.ref rl))
    (hoc : oc.data = .cell (some (.ref od))) (hQ : ∀ h' tk' m', Fr h₀ L h' m' → Q (.ret (.bool true)) { s with heap := h', toks := tk' }) (hd : dp + 60 < recursionLimit) (hu : un + 600 < cLine) : wpAny (model PySem.Challenge.rw_pq0387_01.row.prog w) (ktrTop dp un gd (Str.ofString "law") (lawScope w.params) L fa cd [(Str.ofString "on", L + 1)] []) (execs (lawTail w.params 5) (envX (Str.ofString "law") (lawScope w.params) L fa cd [(Str.ofString "on", L + 1)])) Q (fun _ _ => False) s := by
  w_top off
  replace k1 := nN k1
  replace n5 := nN n5
  replace n6 := nN n6
  replace k2 := nN k2
  replace k3 := nN k3
  replace k4 := nN k4
  replace k5 := nN k5
  have n2' := nN n2
  have n3' := nN n3
  have hLh : hl ≠ L := (N (hl, _) (by k_mem)).2.1
  replace F := frSees F (.cons v1 (.cons v2 (.cons v4 (.cons v5 (.cons v6 (.cons v7 (.nil)))))))
  simp only [ovr] at F
  clear v1 v2 v4 v5 v6 v7
  with_unfolding_all (show wpAny _ (ktrTop _ _ _ _ ⟨_, _, _, _, _⟩ _ _ _ _ _) (execs (_ :: _) (envX _ ⟨_, _, _, _, _⟩ _ _ _ _)) _ _ _)
  revert X; k_fill; intro X
  repeat' (first | (with_reducible (k_here; (with_reducible show wpAny _ _ (call (Value.ref 171) _) _ _ _); k_dflt (refine' places_ok ?BZZ ?FZZ ?XZZ ?NZZ ?TZZ ?hkZZ ?hbZZ ?hksZZ ?hb0ZZ ?hb1ZZ ?hdZZ ?huZZ ?_; (case BZZ => k_asm); (case FZZ => k_asm); (case XZZ => k_asm); (case NZZ => k_asm); (case TZZ => k_asm); (case hkZZ => first | exact rfl | assumption); (case hbZZ => assumption); (case hksZZ => exact digOct_length _); (case hb0ZZ => assumption); (case hb1ZZ => assumption); (case hdZZ => ktr_room); (case huZZ => ktr_units)); intro lZ vsZ nlZ h'Z tk'Z hIZ hoffZ F'Z N'Z; (obtain ⟨p1Z, p2Z, p3Z, t1Z, t2Z, t3Z, hvsZ, hspZ, hp1Z, hp2Z, hp3Z⟩ := spots_inv hIZ (by with_reducible assumption)); (subst hvsZ); (clear hIZ); (try k_lt hoffZ); (try dsimp only))) | (k_here; (with_reducible show wpAny _ _ (call (Value.ref 171) _) _ _ _); k_dflt (refine' places_ok ?BZZ ?FZZ ?XZZ ?NZZ ?TZZ ?hkZZ ?hbZZ ?hksZZ ?hb0ZZ ?hb1ZZ ?hdZZ ?huZZ ?_; (case BZZ => k_asm); (case FZZ => k_asm); (case XZZ => k_asm); (case NZZ => k_asm); (case TZZ => k_asm); (case hkZZ => first | exact rfl | assumption); (case hbZZ => assumption); (case hksZZ => exact digOct_length _); (case hb0ZZ => assumption); (case hb1ZZ => assumption); (case hdZZ => ktr_room); (case huZZ => ktr_units)); intro lZ vsZ nlZ h'Z tk'Z hIZ hoffZ F'Z N'Z; (obtain ⟨p1Z, p2Z, p3Z, t1Z, t2Z, t3Z, hvsZ, hspZ, hp1Z, hp2Z, hp3Z⟩ := spots_inv hIZ (by with_reducible assumption)); (subst hvsZ); (clear hIZ); (try k_lt hoffZ); (try dsimp only)) | (with_reducible (k_here; (with_reducible show wpAny _ _ (call (Value.ref 135) _) _ _ _); k_dflt (refine' of_ok ?BZZ ?FZZ ?XZZ ?NZZ ?TZZ ?hkZZ ?m1ZZ ?m2ZZ ?m3ZZ ?UZZ ?n1ZZ ?n2ZZ ?n3ZZ ?hsZZ ?hbZZ ?hblZZ ?hDZZ ?hTZZ ?hcZZ ?hdZZ ?huZZ ?_; (case BZZ => k_asm); (case FZZ => k_asm); (case XZZ => k_asm); (case NZZ => k_asm); (case TZZ => k_asm); (case hkZZ => first | exact rfl | assumption); (case m1ZZ => k_mem); (case m2ZZ => k_mem); (case m3ZZ => k_mem); (case UZZ => intro o'Z; k_upd); (case n1ZZ => assumption); (case n2ZZ => assumption); (case n3ZZ => assumption); (case hsZZ => assumption); (case hbZZ => assumption); (case hblZZ => assumption); (case hDZZ => assumption); (case hTZZ => assumption); (case hcZZ => assumption); (case hdZZ => ktr_room); (case huZZ => ktr_units)); intro nZ rZ tZ o'Z c'Z h'Z tk'Z hKnZ hFuZ hclZ hD'Z hbrZ F'Z N'Z; (have hT9Z := fur_tidy hFuZ); (try dsimp only))) | (k_here; (with_reducible show wpAny _ _ (call (Value.ref 135) _) _ _ _); k_dflt (refine' of_ok ?BZZ ?FZZ ?XZZ ?NZZ ?TZZ ?hkZZ ?m1ZZ ?m2ZZ ?m3ZZ ?UZZ ?n1ZZ ?n2ZZ ?n3ZZ ?hsZZ ?hbZZ ?hblZZ ?hDZZ ?hTZZ ?hcZZ ?hdZZ ?huZZ ?_; (case BZZ => k_asm); (case FZZ => k_asm); (case XZZ => k_asm); (case NZZ => k_asm); (case TZZ => k_asm); (case hkZZ => first | exact rfl | assumption); (case m1ZZ => k_mem); (case m2ZZ => k_mem); (case m3ZZ => k_mem); (case UZZ => intro o'Z; k_upd); (case n1ZZ => assumption); (case n2ZZ => assumption); (case n3ZZ => assumption); (case hsZZ => assumption); (case hbZZ => assumption); (case hblZZ => assumption); (case hDZZ => assumption); (case hTZZ => assumption); (case hcZZ => assumption); (case hdZZ => ktr_room); (case huZZ => ktr_units)); intro nZ rZ tZ o'Z c'Z h'Z tk'Z hKnZ hFuZ hclZ hD'Z hbrZ F'Z N'Z; (have hT9Z := fur_tidy hFuZ); (try dsimp only)) | (with_reducible (k_here; (with_reducible show wpAny _ _ (setItem (Value.ref _) (Value.int _ _) (Value.bool _)) _ _ _); k_dflt (refine' on_set ?k1ZZ ?k2ZZ ?k3ZZ ?k4ZZ ?k5ZZ ?_; (case k1ZZ => k_asm); (case k2ZZ => k_asm); (case k4ZZ => with_reducible assumption); (case k5ZZ => with_reducible assumption); (case k3ZZ => k_updF)); intro h'Z o'Z hon9Z F'Z N'Z)) | (k_here; (with_reducible show wpAny _ _ (setItem (Value.ref _) (Value.int _ _) (Value.bool _)) _ _ _); k_dflt (refine' on_set ?k1ZZ ?k2ZZ ?k3ZZ ?k4ZZ ?k5ZZ ?_; (case k1ZZ => k_asm); (case k2ZZ => k_asm); (case k4ZZ => with_reducible assumption); (case k5ZZ => with_reducible assumption); (case k3ZZ => k_updF)); intro h'Z o'Z hon9Z F'Z N'Z) | (with_reducible (k_here; (with_reducible show wpAny _ _ (pyIter (Value.ref _)) _ _ _); refine halt ?_)) | (with_reducible (k_here; (with_reducible show wpAny _ _ (eval (Expr.Name (Str.ofString "on") _) _) _ _ _); (with_reducible rename News _ _ _ _ => N'Z); k_dflt (refine' nameX_C N'Z ?c9ZZ ?m9ZZ ?d9ZZ ?_; (case c9ZZ => rfl); (case m9ZZ => k_mem); (case d9ZZ => with_reducible assumption)))) | (k_here; (with_reducible show wpAny _ _ (eval (Expr.Name (Str.ofString "on") _) _) _ _ _); (with_reducible rename News _ _ _ _ => N'Z); k_dflt (refine' nameX_C N'Z ?c9ZZ ?m9ZZ ?d9ZZ ?_; (case c9ZZ => rfl); (case m9ZZ => k_mem); (case d9ZZ => with_reducible assumption))) | (k_unfold; (try dsimp only)) | (k_end; kc_close) | walk1 | (dsimp only; walk1) | (leave1; (try dsimp only)) | fail "no step")
  refine (?_ : wpAny _ _ _ _ _ _)
  rename Fr _ _ _ _ => F1
  have N1 := N
  obtain ⟨m0, hm0, F1⟩ := fr_named F1
  refine' iterL (lo := listOf hw.toArray nh) (vs := hw) (fun i m nx => ∃ (oi : Obj) (ci : List (Int × Int)) (ooi : Obj) (spi : List Nat) (q1 q2 : Option Value), m = frq (Str.ofString "one") q1 (frq (Str.ofString "spot") q2 m0) ∧ nx = (wl, ow) :: (q, listOf vs.toArray nq) :: (od, ooi) :: (L + 1, oc) :: (x, instObj 138 dx) :: (dx, dictOf [⟨PyData.keyHash w.params (Str.ofString "known"), .str (Str.ofString "known") tkn, .ref kd⟩] nkd) :: (kd, oi) :: (hl, listOf hw.toArray nh) :: (al, listOf av.toArray na) :: (rl, listOf (rows.map fun r => Value.ref r.a).toArray nr) :: rest ∧ Marked w c (askAll rows) bits i oi ci ooi spi)
    ?hh ?hls ?hl (Ne.symm hLh) F1 N1 ?hj ?_ ?_
  case hh => with_unfolding_all rfl
  case hls => exact PySem.IsL.isList (n := nh) (N (hl, _) (by k_mem)).1
  case hl => exact .inr fun i m nx => by rintro ⟨oi, ci, ooi, spi, q1, q2, _, rfl, _⟩; k_mem
  case hj => exact ⟨o, c, oon, [], _, _, frq2_self _ _ _, rfl, Marked.start hT hD hon⟩
  · rintro i v m₁ news₁ h tk I oI hvi ⟨oi, ci, ooi, spi, q1, q2, rfl, rfl, M⟩ hoI F2 N2
    obtain ⟨b, bs, tb1, rfl, hbb, hbs⟩ := hH.at i v hvi
    change Fr h₀ L h _ at F2
    change News h₀ L h _ at N2
    unfold frq at F2
    rw [hm0] at F2
    have hil : i < (askAll rows).length := (List.getElem?_eq_some_iff.mp hbs).1
    have hlen := M.len
    have hci : ci.length ≤ 1000 := by omega
    have hTi := M.fu.1
    have hDi := M.bear
    have hoi := M.on
    have hfi := M.few
    have hb40 : bs.length ≤ 40 := hH40 _ (List.mem_of_getElem? hbs)
    simp only [List.forall_mem_cons] at hoI
    have hoI' := hoI
    obtain ⟨oI0, oI1, oI2, oI3, oI4, oI5, oI6, oI7, oI8, oI9, oIr⟩ := hoI'
    replace oI6 := nN oI6
    replace oI2 := nN oI2
    clear N F1 N1 hD hon hT
    repeat' (first | (with_reducible (k_here; (with_reducible show wpAny _ _ (call (Value.ref 171) _) _ _ _); k_dflt (refine' places_ok ?BZZ ?FZZ ?XZZ ?NZZ ?TZZ ?hkZZ ?hbZZ ?hksZZ ?hb0ZZ ?hb1ZZ ?hdZZ ?huZZ ?_; (case BZZ => k_asm); (case FZZ => k_asm); (case XZZ => k_asm); (case NZZ => k_asm); (case TZZ => k_asm); (case hkZZ => first | exact rfl | assumption); (case hbZZ => assumption); (case hksZZ => exact digOct_length _); (case hb0ZZ => assumption); (case hb1ZZ => assumption); (case hdZZ => ktr_room); (case huZZ => ktr_units)); intro lZ vsZ nlZ h'Z tk'Z hIZ hoffZ F'Z N'Z; (obtain ⟨p1Z, p2Z, p3Z, t1Z, t2Z, t3Z, hvsZ, hspZ, hp1Z, hp2Z, hp3Z⟩ := spots_inv hIZ (by with_reducible assumption)); (subst hvsZ); (clear hIZ); (try k_lt hoffZ); (try dsimp only))) | (k_here; (with_reducible show wpAny _ _ (call (Value.ref 171) _) _ _ _); k_dflt (refine' places_ok ?BZZ ?FZZ ?XZZ ?NZZ ?TZZ ?hkZZ ?hbZZ ?hksZZ ?hb0ZZ ?hb1ZZ ?hdZZ ?huZZ ?_; (case BZZ => k_asm); (case FZZ => k_asm); (case XZZ => k_asm); (case NZZ => k_asm); (case TZZ => k_asm); (case hkZZ => first | exact rfl | assumption); (case hbZZ => assumption); (case hksZZ => exact digOct_length _); (case hb0ZZ => assumption); (case hb1ZZ => assumption); (case hdZZ => ktr_room); (case huZZ => ktr_units)); intro lZ vsZ nlZ h'Z tk'Z hIZ hoffZ F'Z N'Z; (obtain ⟨p1Z, p2Z, p3Z, t1Z, t2Z, t3Z, hvsZ, hspZ, hp1Z, hp2Z, hp3Z⟩ := spots_inv hIZ (by with_reducible assumption)); (subst hvsZ); (clear hIZ); (try k_lt hoffZ); (try dsimp only)) | (with_reducible (k_here; (with_reducible show wpAny _ _ (call (Value.ref 135) _) _ _ _); k_dflt (refine' of_ok ?BZZ ?FZZ ?XZZ ?NZZ ?TZZ ?hkZZ ?m1ZZ ?m2ZZ ?m3ZZ ?UZZ ?n1ZZ ?n2ZZ ?n3ZZ ?hsZZ ?hbZZ ?hblZZ ?hDZZ ?hTZZ ?hcZZ ?hdZZ ?huZZ ?_; (case BZZ => k_asm); (case FZZ => k_asm); (case XZZ => k_asm); (case NZZ => k_asm); (case TZZ => k_asm); (case hkZZ => first | exact rfl | assumption); (case m1ZZ => k_mem); (case m2ZZ => k_mem); (case m3ZZ => k_mem); (case UZZ => intro o'Z; k_upd); (case n1ZZ => assumption); (case n2ZZ => assumption); (case n3ZZ => assumption); (case hsZZ => assumption); (case hbZZ => assumption); (case hblZZ => assumption); (case hDZZ => assumption); (case hTZZ => assumption); (case hcZZ => assumption); (case hdZZ => ktr_room); (case huZZ => ktr_units)); intro nZ rZ tZ o'Z c'Z h'Z tk'Z hKnZ hFuZ hclZ hD'Z hbrZ F'Z N'Z; (have hT9Z := fur_tidy hFuZ); (try dsimp only))) | (k_here; (with_reducible show wpAny _ _ (call (Value.ref 135) _) _ _ _); k_dflt (refine' of_ok ?BZZ ?FZZ ?XZZ ?NZZ ?TZZ ?hkZZ ?m1ZZ ?m2ZZ ?m3ZZ ?UZZ ?n1ZZ ?n2ZZ ?n3ZZ ?hsZZ ?hbZZ ?hblZZ ?hDZZ ?hTZZ ?hcZZ ?hdZZ ?huZZ ?_; (case BZZ => k_asm); (case FZZ => k_asm); (case XZZ => k_asm); (case NZZ => k_asm); (case TZZ => k_asm); (case hkZZ => first | exact rfl | assumption); (case m1ZZ => k_mem); (case m2ZZ => k_mem); (case m3ZZ => k_mem); (case UZZ => intro o'Z; k_upd); (case n1ZZ => assumption); (case n2ZZ => assumption); (case n3ZZ => assumption); (case hsZZ => assumption); (case hbZZ => assumption); (case hblZZ => assumption); (case hDZZ => assumption); (case hTZZ => assumption); (case hcZZ => assumption); (case hdZZ => ktr_room); (case huZZ => ktr_units)); intro nZ rZ tZ o'Z c'Z h'Z tk'Z hKnZ hFuZ hclZ hD'Z hbrZ F'Z N'Z; (have hT9Z := fur_tidy hFuZ); (try dsimp only)) | (with_reducible (k_here; (with_reducible show wpAny _ _ (setItem (Value.ref _) (Value.int _ _) (Value.bool _)) _ _ _); k_dflt (refine' on_set ?k1ZZ ?k2ZZ ?k3ZZ ?k4ZZ ?k5ZZ ?_; (case k1ZZ => k_asm); (case k2ZZ => k_asm); (case k4ZZ => with_reducible assumption); (case k5ZZ => with_reducible assumption); (case k3ZZ => k_updF)); intro h'Z o'Z hon9Z F'Z N'Z)) | (k_here; (with_reducible show wpAny _ _ (setItem (Value.ref _) (Value.int _ _) (Value.bool _)) _ _ _); k_dflt (refine' on_set ?k1ZZ ?k2ZZ ?k3ZZ ?k4ZZ ?k5ZZ ?_; (case k1ZZ => k_asm); (case k2ZZ => k_asm); (case k4ZZ => with_reducible assumption); (case k5ZZ => with_reducible assumption); (case k3ZZ => k_updF)); intro h'Z o'Z hon9Z F'Z N'Z) | (with_reducible (k_here; (with_reducible show wpAny _ _ (pyIter (Value.ref _)) _ _ _); refine halt ?_)) | (with_reducible (k_here; (with_reducible show wpAny _ _ (eval (Expr.Name (Str.ofString "on") _) _) _ _ _); (with_reducible rename News _ _ _ _ => N'Z); k_dflt (refine' nameX_C N'Z ?c9ZZ ?m9ZZ ?d9ZZ ?_; (case c9ZZ => rfl); (case m9ZZ => k_mem); (case d9ZZ => with_reducible assumption)))) | (k_here; (with_reducible show wpAny _ _ (eval (Expr.Name (Str.ofString "on") _) _) _ _ _); (with_reducible rename News _ _ _ _ => N'Z); k_dflt (refine' nameX_C N'Z ?c9ZZ ?m9ZZ ?d9ZZ ?_; (case c9ZZ => rfl); (case m9ZZ => k_mem); (case d9ZZ => with_reducible assumption))) | (k_unfold; (try dsimp only)) | (k_end; kc_close) | walk1 | (dsimp only; walk1) | (leave1; (try dsimp only)) | fail "no step")
    refine (?_ : wpAny _ _ _ _ _ _)
    rename Fr h₀ L _ _ => F9
    rename News h₀ L _ _ => N9
    rename Knows _ _ _ => hKn
    rename Further ci _ => hFu
    rename _ ≤ List.length ci + 1 => hcl
    rename Bears w _ _ => hD9
    rename spots _ _ = [_, _, _] => hsp9
    rename (I < _ ∧ _) => hoff
    obtain ⟨l9, nl9, p1, p2, p3, t1, t2, t3, o9, rfl, rfl, rfl, rfl, rfl, rfl, rfl, rfl, rfl⟩ := spots_named N9
    have hLl : l9 ≠ L := (N9 (l9, _) (List.Mem.head _)).2.1
    clear N2
    subst hm0
    obtain ⟨m1, hm1, F9⟩ := fr_named F9
    refine' iterL (lo := listOf #[Value.int (p1 : Int) t1, Value.int (p2 : Int) t2, Value.int (p3 : Int) t3] nl9) (vs := [Value.int (p1 : Int) t1, Value.int (p2 : Int) t2, Value.int (p3 : Int) t3]) (fun j m nx => ∃ (oo : Obj) (q3 : Option Value), m = frq (Str.ofString "spot") q3 m1 ∧ nx = (l9, listOf #[Value.int (p1 : Int) t1, Value.int (p2 : Int) t2, Value.int (p3 : Int) t3] nl9) :: (I, oI) :: (wl, ow) :: (q, listOf vs.toArray nq) :: (od, oo) :: (L + 1, oc) :: (x, instObj 138 dx) :: (dx, dictOf [⟨PyData.keyHash w.params (Str.ofString "known"), .str (Str.ofString "known") tkn, .ref kd⟩] nkd) :: (kd, o9) :: (hl, listOf hw.toArray nh) :: (al, listOf av.toArray na) :: (rl, listOf (rows.map fun r => Value.ref r.a).toArray nr) :: rest ∧ IsOn w oo (addAll spi (([p1, p2, p3]).take j)))
      ?hh ?hls ?hl (Ne.symm hLl) F9 N9 ?hj ?_ ?_
    case hh => with_unfolding_all rfl
    case hls => exact PySem.IsL.isList (n := nl9) (N9 (l9, _) (List.Mem.head _)).1
    case hl => exact .inr fun i m nx => by rintro ⟨oo, q3, _, rfl, _⟩; exact List.Mem.head _
    case hj => exact ⟨ooi, _, frq_self _ _, rfl, hoi⟩
    · rintro j v m₁ news₁ h tk I2 oI2 hvj ⟨oo, q3, rfl, rfl, ho2⟩ hoJ F2 N2
      change Fr h₀ L h _ at F2
      change News h₀ L h _ at N2
      unfold frq at F2
      simp only [List.forall_mem_cons] at hoJ
      have hoJ' := hoJ
      obtain ⟨oJ0, oJ1, oJ2, oJ3, oJ4, oJ5, oJ6, oJ7, oJ8, oJ9, oJ10, oJ11, oJr⟩ := hoJ'
      replace oJ4 := nN oJ4
      have hlx : @Ne Nat l9 od := by have := hoff.2.2.2.1; omega
      have hz9 : (addAll spi (([p1, p2, p3]).take j)).length ≤ 1000 := by
        have e1 := addAll_length (([p1, p2, p3]).take j) spi
        have e2 : (([p1, p2, p3]).take j).length ≤ 3 := by rw [List.length_take]; exact Nat.min_le_right _ _
        omega
      obtain ⟨p, t, hpj, rfl⟩ : ∃ (p : Nat) (t : Tok), ([p1, p2, p3])[j]? = some p ∧ v = .int (p : Int) t := by
        match j, hvj with
        | 0, h => cases h; exact ⟨p1, t1, rfl, rfl⟩
        | 1, h => cases h; exact ⟨p2, t2, rfl, rfl⟩
        | 2, h => cases h; exact ⟨p3, t3, rfl, rfl⟩
      clear N9 F9
      repeat' (first | (with_reducible (k_here; (with_reducible show wpAny _ _ (call (Value.ref 171) _) _ _ _); k_dflt (refine' places_ok ?BZZ ?FZZ ?XZZ ?NZZ ?TZZ ?hkZZ ?hbZZ ?hksZZ ?hb0ZZ ?hb1ZZ ?hdZZ ?huZZ ?_; (case BZZ => k_asm); (case FZZ => k_asm); (case XZZ => k_asm); (case NZZ => k_asm); (case TZZ => k_asm); (case hkZZ => first | exact rfl | assumption); (case hbZZ => assumption); (case hksZZ => exact digOct_length _); (case hb0ZZ => assumption); (case hb1ZZ => assumption); (case hdZZ => ktr_room); (case huZZ => ktr_units)); intro lZ vsZ nlZ h'Z tk'Z hIZ hoffZ F'Z N'Z; (obtain ⟨p1Z, p2Z, p3Z, t1Z, t2Z, t3Z, hvsZ, hspZ, hp1Z, hp2Z, hp3Z⟩ := spots_inv hIZ (by with_reducible assumption)); (subst hvsZ); (clear hIZ); (try k_lt hoffZ); (try dsimp only))) | (k_here; (with_reducible show wpAny _ _ (call (Value.ref 171) _) _ _ _); k_dflt (refine' places_ok ?BZZ ?FZZ ?XZZ ?NZZ ?TZZ ?hkZZ ?hbZZ ?hksZZ ?hb0ZZ ?hb1ZZ ?hdZZ ?huZZ ?_; (case BZZ => k_asm); (case FZZ => k_asm); (case XZZ => k_asm); (case NZZ => k_asm); (case TZZ => k_asm); (case hkZZ => first | exact rfl | assumption); (case hbZZ => assumption); (case hksZZ => exact digOct_length _); (case hb0ZZ => assumption); (case hb1ZZ => assumption); (case hdZZ => ktr_room); (case huZZ => ktr_units)); intro lZ vsZ nlZ h'Z tk'Z hIZ hoffZ F'Z N'Z; (obtain ⟨p1Z, p2Z, p3Z, t1Z, t2Z, t3Z, hvsZ, hspZ, hp1Z, hp2Z, hp3Z⟩ := spots_inv hIZ (by with_reducible assumption)); (subst hvsZ); (clear hIZ); (try k_lt hoffZ); (try dsimp only)) | (with_reducible (k_here; (with_reducible show wpAny _ _ (call (Value.ref 135) _) _ _ _); k_dflt (refine' of_ok ?BZZ ?FZZ ?XZZ ?NZZ ?TZZ ?hkZZ ?m1ZZ ?m2ZZ ?m3ZZ ?UZZ ?n1ZZ ?n2ZZ ?n3ZZ ?hsZZ ?hbZZ ?hblZZ ?hDZZ ?hTZZ ?hcZZ ?hdZZ ?huZZ ?_; (case BZZ => k_asm); (case FZZ => k_asm); (case XZZ => k_asm); (case NZZ => k_asm); (case TZZ => k_asm); (case hkZZ => first | exact rfl | assumption); (case m1ZZ => k_mem); (case m2ZZ => k_mem); (case m3ZZ => k_mem); (case UZZ => intro o'Z; k_upd); (case n1ZZ => assumption); (case n2ZZ => assumption); (case n3ZZ => assumption); (case hsZZ => assumption); (case hbZZ => assumption); (case hblZZ => assumption); (case hDZZ => assumption); (case hTZZ => assumption); (case hcZZ => assumption); (case hdZZ => ktr_room); (case huZZ => ktr_units)); intro nZ rZ tZ o'Z c'Z h'Z tk'Z hKnZ hFuZ hclZ hD'Z hbrZ F'Z N'Z; (have hT9Z := fur_tidy hFuZ); (try dsimp only))) | (k_here; (with_reducible show wpAny _ _ (call (Value.ref 135) _) _ _ _); k_dflt (refine' of_ok ?BZZ ?FZZ ?XZZ ?NZZ ?TZZ ?hkZZ ?m1ZZ ?m2ZZ ?m3ZZ ?UZZ ?n1ZZ ?n2ZZ ?n3ZZ ?hsZZ ?hbZZ ?hblZZ ?hDZZ ?hTZZ ?hcZZ ?hdZZ ?huZZ ?_; (case BZZ => k_asm); (case FZZ => k_asm); (case XZZ => k_asm); (case NZZ => k_asm); (case TZZ => k_asm); (case hkZZ => first | exact rfl | assumption); (case m1ZZ => k_mem); (case m2ZZ => k_mem); (case m3ZZ => k_mem); (case UZZ => intro o'Z; k_upd); (case n1ZZ => assumption); (case n2ZZ => assumption); (case n3ZZ => assumption); (case hsZZ => assumption); (case hbZZ => assumption); (case hblZZ => assumption); (case hDZZ => assumption); (case hTZZ => assumption); (case hcZZ => assumption); (case hdZZ => ktr_room); (case huZZ => ktr_units)); intro nZ rZ tZ o'Z c'Z h'Z tk'Z hKnZ hFuZ hclZ hD'Z hbrZ F'Z N'Z; (have hT9Z := fur_tidy hFuZ); (try dsimp only)) | (with_reducible (k_here; (with_reducible show wpAny _ _ (setItem (Value.ref _) (Value.int _ _) (Value.bool _)) _ _ _); k_dflt (refine' on_set ?k1ZZ ?k2ZZ ?k3ZZ ?k4ZZ ?k5ZZ ?_; (case k1ZZ => k_asm); (case k2ZZ => k_asm); (case k4ZZ => with_reducible assumption); (case k5ZZ => with_reducible assumption); (case k3ZZ => k_updF)); intro h'Z o'Z hon9Z F'Z N'Z)) | (k_here; (with_reducible show wpAny _ _ (setItem (Value.ref _) (Value.int _ _) (Value.bool _)) _ _ _); k_dflt (refine' on_set ?k1ZZ ?k2ZZ ?k3ZZ ?k4ZZ ?k5ZZ ?_; (case k1ZZ => k_asm); (case k2ZZ => k_asm); (case k4ZZ => with_reducible assumption); (case k5ZZ => with_reducible assumption); (case k3ZZ => k_updF)); intro h'Z o'Z hon9Z F'Z N'Z) | (with_reducible (k_here; (with_reducible show wpAny _ _ (pyIter (Value.ref _)) _ _ _); refine halt ?_)) | (with_reducible (k_here; (with_reducible show wpAny _ _ (eval (Expr.Name (Str.ofString "on") _) _) _ _ _); (with_reducible rename News _ _ _ _ => N'Z); k_dflt (refine' nameX_C N'Z ?c9ZZ ?m9ZZ ?d9ZZ ?_; (case c9ZZ => rfl); (case m9ZZ => k_mem); (case d9ZZ => with_reducible assumption)))) | (k_here; (with_reducible show wpAny _ _ (eval (Expr.Name (Str.ofString "on") _) _) _ _ _); (with_reducible rename News _ _ _ _ => N'Z); k_dflt (refine' nameX_C N'Z ?c9ZZ ?m9ZZ ?d9ZZ ?_; (case c9ZZ => rfl); (case m9ZZ => k_mem); (case d9ZZ => with_reducible assumption))) | (k_unfold; (try dsimp only)) | (k_end; kc_close) | walk1 | (dsimp only; walk1) | (leave1; (try dsimp only)) | fail "no step")
      show EndG _ _ _ _ _ _ _
      rename Fr h₀ L _ _ => F3
      rename News h₀ L _ _ => N3
      rename IsOn w _ (addSp _ _) => ho3
      refine EndG.intro F3 N3 (.head _) (fun p hp => .tail _ hp) (nx := (l9, listOf #[Value.int (p1 : Int) t1, Value.int (p2 : Int) t2, Value.int (p3 : Int) t3] nl9) :: (I, oI) :: (wl, ow) :: (q, listOf vs.toArray nq) :: (od, _) :: (L + 1, oc) :: (x, instObj 138 dx) :: (dx, dictOf [⟨PyData.keyHash w.params (Str.ofString "known"), .str (Str.ofString "known") tkn, .ref kd⟩] nkd) :: (kd, o9) :: (hl, listOf hw.toArray nh) :: (al, listOf av.toArray na) :: (rl, listOf (rows.map fun r => Value.ref r.a).toArray nr) :: rest) ?_ ⟨_, _, frq_again _ _ _ _, rfl, ?_⟩
      · simp only [List.forall_mem_cons]
        exact hoJ
      · rw [List.take_add_one, hpj]
        show IsOn w _ (addAll _ (_ ++ [p]))
        rw [addAll_snoc]
        exact ho3
    · rintro m₁ news₁ h3 tk3 ⟨oo, q3, rfl, rfl, ho2⟩ F6 N6
      change Fr h₀ L h3 _ at F6
      change News h₀ L h3 _ at N6
      replace ho2 : IsOn w oo (addAll spi [p1, p2, p3]) := ho2
      clear N9 F9
      repeat' (first | (with_reducible (k_here; (with_reducible show wpAny _ _ (call (Value.ref 171) _) _ _ _); k_dflt (refine' places_ok ?BZZ ?FZZ ?XZZ ?NZZ ?TZZ ?hkZZ ?hbZZ ?hksZZ ?hb0ZZ ?hb1ZZ ?hdZZ ?huZZ ?_; (case BZZ => k_asm); (case FZZ => k_asm); (case XZZ => k_asm); (case NZZ => k_asm); (case TZZ => k_asm); (case hkZZ => first | exact rfl | assumption); (case hbZZ => assumption); (case hksZZ => exact digOct_length _); (case hb0ZZ => assumption); (case hb1ZZ => assumption); (case hdZZ => ktr_room); (case huZZ => ktr_units)); intro lZ vsZ nlZ h'Z tk'Z hIZ hoffZ F'Z N'Z; (obtain ⟨p1Z, p2Z, p3Z, t1Z, t2Z, t3Z, hvsZ, hspZ, hp1Z, hp2Z, hp3Z⟩ := spots_inv hIZ (by with_reducible assumption)); (subst hvsZ); (clear hIZ); (try k_lt hoffZ); (try dsimp only))) | (k_here; (with_reducible show wpAny _ _ (call (Value.ref 171) _) _ _ _); k_dflt (refine' places_ok ?BZZ ?FZZ ?XZZ ?NZZ ?TZZ ?hkZZ ?hbZZ ?hksZZ ?hb0ZZ ?hb1ZZ ?hdZZ ?huZZ ?_; (case BZZ => k_asm); (case FZZ => k_asm); (case XZZ => k_asm); (case NZZ => k_asm); (case TZZ => k_asm); (case hkZZ => first | exact rfl | assumption); (case hbZZ => assumption); (case hksZZ => exact digOct_length _); (case hb0ZZ => assumption); (case hb1ZZ => assumption); (case hdZZ => ktr_room); (case huZZ => ktr_units)); intro lZ vsZ nlZ h'Z tk'Z hIZ hoffZ F'Z N'Z; (obtain ⟨p1Z, p2Z, p3Z, t1Z, t2Z, t3Z, hvsZ, hspZ, hp1Z, hp2Z, hp3Z⟩ := spots_inv hIZ (by with_reducible assumption)); (subst hvsZ); (clear hIZ); (try k_lt hoffZ); (try dsimp only)) | (with_reducible (k_here; (with_reducible show wpAny _ _ (call (Value.ref 135) _) _ _ _); k_dflt (refine' of_ok ?BZZ ?FZZ ?XZZ ?NZZ ?TZZ ?hkZZ ?m1ZZ ?m2ZZ ?m3ZZ ?UZZ ?n1ZZ ?n2ZZ ?n3ZZ ?hsZZ ?hbZZ ?hblZZ ?hDZZ ?hTZZ ?hcZZ ?hdZZ ?huZZ ?_; (case BZZ => k_asm); (case FZZ => k_asm); (case XZZ => k_asm); (case NZZ => k_asm); (case TZZ => k_asm); (case hkZZ => first | exact rfl | assumption); (case m1ZZ => k_mem); (case m2ZZ => k_mem); (case m3ZZ => k_mem); (case UZZ => intro o'Z; k_upd); (case n1ZZ => assumption); (case n2ZZ => assumption); (case n3ZZ => assumption); (case hsZZ => assumption); (case hbZZ => assumption); (case hblZZ => assumption); (case hDZZ => assumption); (case hTZZ => assumption); (case hcZZ => assumption); (case hdZZ => ktr_room); (case huZZ => ktr_units)); intro nZ rZ tZ o'Z c'Z h'Z tk'Z hKnZ hFuZ hclZ hD'Z hbrZ F'Z N'Z; (have hT9Z := fur_tidy hFuZ); (try dsimp only))) | (k_here; (with_reducible show wpAny _ _ (call (Value.ref 135) _) _ _ _); k_dflt (refine' of_ok ?BZZ ?FZZ ?XZZ ?NZZ ?TZZ ?hkZZ ?m1ZZ ?m2ZZ ?m3ZZ ?UZZ ?n1ZZ ?n2ZZ ?n3ZZ ?hsZZ ?hbZZ ?hblZZ ?hDZZ ?hTZZ ?hcZZ ?hdZZ ?huZZ ?_; (case BZZ => k_asm); (case FZZ => k_asm); (case XZZ => k_asm); (case NZZ => k_asm); (case TZZ => k_asm); (case hkZZ => first | exact rfl | assumption); (case m1ZZ => k_mem); (case m2ZZ => k_mem); (case m3ZZ => k_mem); (case UZZ => intro o'Z; k_upd); (case n1ZZ => assumption); (case n2ZZ => assumption); (case n3ZZ => assumption); (case hsZZ => assumption); (case hbZZ => assumption); (case hblZZ => assumption); (case hDZZ => assumption); (case hTZZ => assumption); (case hcZZ => assumption); (case hdZZ => ktr_room); (case huZZ => ktr_units)); intro nZ rZ tZ o'Z c'Z h'Z tk'Z hKnZ hFuZ hclZ hD'Z hbrZ F'Z N'Z; (have hT9Z := fur_tidy hFuZ); (try dsimp only)) | (with_reducible (k_here; (with_reducible show wpAny _ _ (setItem (Value.ref _) (Value.int _ _) (Value.bool _)) _ _ _); k_dflt (refine' on_set ?k1ZZ ?k2ZZ ?k3ZZ ?k4ZZ ?k5ZZ ?_; (case k1ZZ => k_asm); (case k2ZZ => k_asm); (case k4ZZ => with_reducible assumption); (case k5ZZ => with_reducible assumption); (case k3ZZ => k_updF)); intro h'Z o'Z hon9Z F'Z N'Z)) | (k_here; (with_reducible show wpAny _ _ (setItem (Value.ref _) (Value.int _ _) (Value.bool _)) _ _ _); k_dflt (refine' on_set ?k1ZZ ?k2ZZ ?k3ZZ ?k4ZZ ?k5ZZ ?_; (case k1ZZ => k_asm); (case k2ZZ => k_asm); (case k4ZZ => with_reducible assumption); (case k5ZZ => with_reducible assumption); (case k3ZZ => k_updF)); intro h'Z o'Z hon9Z F'Z N'Z) | (with_reducible (k_here; (with_reducible show wpAny _ _ (pyIter (Value.ref _)) _ _ _); refine halt ?_)) | (with_reducible (k_here; (with_reducible show wpAny _ _ (eval (Expr.Name (Str.ofString "on") _) _) _ _ _); (with_reducible rename News _ _ _ _ => N'Z); k_dflt (refine' nameX_C N'Z ?c9ZZ ?m9ZZ ?d9ZZ ?_; (case c9ZZ => rfl); (case m9ZZ => k_mem); (case d9ZZ => with_reducible assumption)))) | (k_here; (with_reducible show wpAny _ _ (eval (Expr.Name (Str.ofString "on") _) _) _ _ _); (with_reducible rename News _ _ _ _ => N'Z); k_dflt (refine' nameX_C N'Z ?c9ZZ ?m9ZZ ?d9ZZ ?_; (case c9ZZ => rfl); (case m9ZZ => k_mem); (case d9ZZ => with_reducible assumption))) | (k_unfold; (try dsimp only)) | (k_end; kc_close) | walk1 | (dsimp only; walk1) | (leave1; (try dsimp only)) | fail "no step")
      subst hm1
      show EndG _ _ _ _ _ _ _
      refine EndG.intro F6 N6 (.tail _ (.head _)) (fun p hp => .tail _ (.tail _ hp)) (nx := (wl, ow) :: (q, listOf vs.toArray nq) :: (od, oo) :: (L + 1, oc) :: (x, instObj 138 dx) :: (dx, dictOf [⟨PyData.keyHash w.params (Str.ofString "known"), .str (Str.ofString "known") tkn, .ref kd⟩] nkd) :: (kd, o9) :: (hl, listOf hw.toArray nh) :: (al, listOf av.toArray na) :: (rl, listOf (rows.map fun r => Value.ref r.a).toArray nr) :: rest) ?_ ⟨_, _, _, _, _, _, frq2_again (x := Str.ofString "one") (y := Str.ofString "spot") (by decide) _ _ _ _ _, rfl, M.step hbs hKn hFu hcl hD9 hsp9 (Nat.le_refl _) ho2⟩
      simp only [List.forall_mem_cons]
      exact hoI
  · rintro m₁ news₁ h3 tk3 ⟨oi, ci, ooi, spi, q1, q2, rfl, rfl, M⟩ F6 N6
    change Fr h₀ L h3 _ at F6
    change News h₀ L h3 _ at N6
    rw [hm0] at F6
    have hlh := hH.length
    have hl6 := M.len
    have hf6 := M.few
    have hk6 := M.kn
    have hs6 := M.sp
    rw [hlh, List.take_length] at hk6
    simp only [hlh, List.take_length] at hs6
    refine seg6 (s := { s with heap := h3, toks := tk3 }) (tb := tb) (sp := spi) B F6 X XB T TB N6 hR r1 r2 r3 r4 r5 r6 r7 r8 n1 n2 n3 w1 w2 w3 w4 w5 hW iv hn hv (by assumption) han hav n4 n5 n6 k1 k2 k3 k4 k5 k6 hsk M.bear M.fu.1 (by omega) hr4 hin hH hHl hH40 hk6 hs6 (by omega) hb0 hb1 hs M.on M.nd ?h1 ?h2 ?h3 ?h4 ?h5 ?h6 hoc hQ hd hu
    case h1 => with_unfolding_all rfl
    case h2 => with_unfolding_all rfl
    case h3 => with_unfolding_all rfl
    case h4 => with_unfolding_all rfl
    case h5 => with_unfolding_all rfl
    case h6 => with_unfolding_all rfl
end
section
open PySem.Calls
/-- what holds ahead of a turn of the inner building -/
structure Grown (j a0 : Nat) (as tops : List Int) (askd : List (List Int)) (addr : Int) (hw av tv : List Value) : Prop where
  isv : IntsAre av as
  few : as.length ≤ a0 + j
  lim : ∀ v ∈ as, 0 ≤ v ∧ v < 256 ^ 32
  tsv : IntsAre tv tops
  tlen : tops.length = j
  tlim : ∀ v ∈ tops, 0 ≤ v ∧ v < 256 ^ 32
  held : BytesAre hw (askd ++ octs 20 addr :: tops.map (octs 32))
theorem ints_snoc : ∀ {vs : List Value} {ns : List Int} {n : Int} (t : Tok), IntsAre vs ns → IntsAre (vs ++ [.int n t]) (ns ++ [n])
  | _, _, _, t, .nil => .cons _ t .nil
  | _, _, _, t, .cons _ u r => .cons _ u (ints_snoc t r)
theorem lim_snoc {l : List Int} {n B : Int} (h : ∀ v ∈ l, 0 ≤ v ∧ v < B) (h0 : 0 ≤ n) (h1 : n < B) : ∀ v ∈ l ++ [n], 0 ≤ v ∧ v < B := fun v hv => by
  rcases List.mem_append.mp hv with hv | hv
  · exact h v hv
  · rw [List.mem_singleton.mp hv]; exact ⟨h0, h1⟩
theorem Grown.step {j a0 : Nat} {as tops : List Int} {askd : List (List Int)} {addr n : Int} {hw av tv : List Value} {b : Array UInt8} (t1 t2 t3 : Tok) (G : Grown j a0 as tops askd addr hw av tv) (h0 : 0 ≤ n) (h1 : n < 256 ^ 32) (hb : KBw.bInts b = octs 32 n) :
    Grown (j + 1) a0 (as ++ [n]) (tops ++ [n]) askd addr (hw ++ [.bytes b t1]) (av ++ [.int n t2]) (tv ++ [.int n t3]) := by
  refine ⟨ints_snoc _ G.isv, ?_, lim_snoc G.lim h0 h1, ints_snoc _ G.tsv, ?_, lim_snoc G.tlim h0 h1, ?_⟩
  · rw [List.length_append]
    have := G.few
    show as.length + 1 ≤ _
    omega
  · rw [List.length_append, G.tlen]; rfl
  · have e : askd ++ octs 20 addr :: (tops ++ [n]).map (octs 32) = (askd ++ octs 20 addr :: tops.map (octs 32)) ++ [octs 32 n] := by simp
    rw [e]
    exact G.held.snoc _ hb
theorem last_of {prog : Program} {w : World} {A : Around} {E : Value → Shared → Prop} {s : Shared} {h₀ : Heap} {L l : Addr} {news : List (Addr × Obj)} {value slice : PySem.Expr} {vi : List Value} {v : Value} {n : Nat} {u : Tok} {Q : Value → Shared → Prop} (N : News h₀ L s.heap news) (hm : (l, listOf (vi ++ [v]).toArray n) ∈ news) (h : Q v s)
    (hs : subscripted slice false (.ref l) (.int (-1) u) = operate [.ref l, .int (-1) u] (getItem (.ref l) (.int (-1) u)) := by with_unfolding_all rfl)
    (ht : ∀ r, letTemporaryGo value (.ref l) r = pure () := by intro _; with_unfolding_all rfl) :
    wpAny (model prog w) A (subscriptTail value slice (.ref l) (.int (-1) u)) Q E s :=
  item_last (PySem.IsL.isList (n := n) (N _ hm).1) h hs ht
noncomputable def loopBody (P : Params) : List Stmt := match lawTail P 4 with
  | .For _ _ b _ _ :: _ => b
  | _ => []
noncomputable def innerBody (P : Params) : List Stmt := match (loopBody P).drop 3 with
  | .For _ _ b _ _ :: _ => b
  | _ => []
theorem lt_20 {n : Int} (h : n < 256 ^ 20) : n < 256 ^ 32 := Int.lt_trans h (by decide)
set_option maxRecDepth 100000 in
set_option maxHeartbeats 1000000 in
theorem inner4 {oc : Obj} {w : World} {mean : ExcName → Option Value} {mg mb : Str → Option Value} {dp un : Nat} {gd : Option (List Code)} {fa : Addr} {cd : Value} {A₀ : Around} {base h₀ : Heap} {L : Addr} {m : Str → Option Value} {s : Shared} {Q : Flow → Shared → Prop} {wl q od x dx kd hl al rl rx rd rt I r : Addr} {vs hw av rv tv : List Value} {ns as : List Int} {nq nkd nh na nr nt nd : Nat} {ow oon o oI : Obj} {tkn k1 k2 k3 ta t u v : Tok} {dv : Value} {askd : List (List Int)} {addr b : Int} {a0 : Nat} {rest : List (Addr × Obj)}
    {E : Value → Shared → Prop} (B : Below A₀ base [] h₀) (F : Fr h₀ L s.heap m) (X : (Mine.hd.heap_39 w.params).In h₀) (T : Top hd.view_39 (looseW hd.view_39 [Str.ofString "WORD", Str.ofString "LEAST_ADDRESS"]) mean mg mb h₀) (N : News h₀ L s.heap ((rx, instObj 103 rd) :: (rd, dictOf [⟨PyData.keyHash w.params (Str.ofString "address"), .str (Str.ofString "address") k1, .int addr ta⟩, ⟨PyData.keyHash w.params (Str.ofString "topics"), .str (Str.ofString "topics") k2, .ref rt⟩, ⟨PyData.keyHash w.params (Str.ofString "data"), .str (Str.ofString "data") k3, dv⟩] nd) :: (rt, listOf tv.toArray nt) :: (I, oI) :: (wl, ow) :: (q, listOf vs.toArray nq) :: (od, oon) :: (L + 1, oc) :: (x, instObj 138 dx) :: (dx, dictOf [⟨PyData.keyHash w.params (Str.ofString "known"), .str (Str.ofString "known") tkn, .ref kd⟩] nkd) :: (kd, o) :: (hl, listOf hw.toArray nh) :: (al, listOf av.toArray na) :: (rl, listOf (rv ++ [Value.ref rx]).toArray nr) :: rest))
    (hxd : x ≠ dx) (hord : @LT.lt Nat _ (L + 1) wl ∧ @LT.lt Nat _ q wl ∧ @LT.lt Nat _ wl x ∧ @LT.lt Nat _ wl dx ∧ @LT.lt Nat _ x kd ∧ @LT.lt Nat _ dx kd ∧ @LT.lt Nat _ kd rl ∧ @LT.lt Nat _ rl hl ∧ @LT.lt Nat _ hl al ∧ @LT.lt Nat _ al od ∧ @LT.lt Nat _ od rt ∧ @LT.lt Nat _ rt rd ∧ @LT.lt Nat _ rd rx ∧ @LT.lt Nat _ I rt)
    (hI : ∀ p ∈ (wl, oI) :: (q, oI) :: (od, oI) :: (L + 1, oI) :: (x, oI) :: (dx, oI) :: (kd, oI) :: (hl, oI) :: (al, oI) :: (rl, oI) :: rest, p.1 ≠ I)
    (s0 : ∀ p ∈ rest, @LT.lt Nat _ od p.1) (s5 : ∀ p ∈ rest, p.1 ≠ rt)
    (hW : IsWell q ns ow) (iv : IntsAre vs ns) (hn : ns.length ≤ 60) (hv : ∀ v ∈ ns, 0 ≤ v ∧ v < 2147483647)
    (G : Grown 0 a0 as [] askd addr hw av tv) (ha0 : a0 ≤ 50) (hask : askd.length ≤ 50) (hrv : rv.length ≤ 50)
    (hr : IsRange s.heap r 0 b 1 t u v) (hb0 : 0 ≤ b) (hb1 : b < 5)
    (v1 : m (Str.ofString "well") = some (.ref wl)) (v5 : m (Str.ofString "held") = some (.ref hl)) (v6 : m (Str.ofString "ahead") = some (.ref al)) (v7 : m (Str.ofString "rows") = some (.ref rl))
    (hd : dp + 60 < recursionLimit) (hu : un + 600 < cLine)
    (hret : ∀ owj asj tops hwj avj tv nhj naj nt q3 h' tk', IsWell q ns owj → Grown b.toNat a0 asj tops askd addr hwj avj tv → Fr h₀ L h' (frq (Str.ofString "again") q3 m) → News h₀ L h' ((rx, instObj 103 rd) :: (rd, dictOf [⟨PyData.keyHash w.params (Str.ofString "address"), .str (Str.ofString "address") k1, .int addr ta⟩, ⟨PyData.keyHash w.params (Str.ofString "topics"), .str (Str.ofString "topics") k2, .ref rt⟩, ⟨PyData.keyHash w.params (Str.ofString "data"), .str (Str.ofString "data") k3, dv⟩] nd) :: (rt, listOf tv.toArray nt) :: (I, oI) :: (wl, owj) :: (q, listOf vs.toArray nq) :: (od, oon) :: (L + 1, oc) :: (x, instObj 138 dx) :: (dx, dictOf [⟨PyData.keyHash w.params (Str.ofString "known"), .str (Str.ofString "known") tkn, .ref kd⟩] nkd) :: (kd, o) :: (hl, listOf hwj.toArray nhj) :: (al, listOf avj.toArray naj) :: (rl, listOf (rv ++ [Value.ref rx]).toArray nr) :: rest) → Q .next { s with heap := h', toks := tk' }) :
    wpAny (model PySem.Challenge.rw_pq0387_01.row.prog w) (ktrTop dp un gd (Str.ofString "law") (lawScope w.params) L fa cd [(Str.ofString "on", L + 1)] []) (pyIter (.ref r))
      (fun it s₂ => LoopAtV PySem.Challenge.rw_pq0387_01.row.prog w (ktrTop dp un gd (Str.ofString "law") (lawScope w.params) L fa cd [(Str.ofString "on", L + 1)] []) h₀ (envX (Str.ofString "law") (lawScope w.params) L fa cd [(Str.ofString "on", L + 1)]) (Str.ofString "again") (innerBody w.params) Q E it s₂) E s := by
  w_top off
  obtain ⟨a0', a1, a2, a3, a4, a5, a6, a7, a8, a9, y0, y1, y2, y3⟩ := hord
  have hq : q ≠ wl := Nat.ne_of_lt a1
  have ha : al ≠ wl := Nat.ne_of_gt (by omega)
  have s1 : ∀ p ∈ rest, p.1 ≠ wl := fun p hp => Nat.ne_of_gt (by have := s0 p hp; omega)
  have s2 : ∀ p ∈ rest, p.1 ≠ hl := fun p hp => Nat.ne_of_gt (by have := s0 p hp; omega)
  have s3 : ∀ p ∈ rest, p.1 ≠ al := fun p hp => Nat.ne_of_gt (by have := s0 p hp; omega)
  have s4 : ∀ p ∈ rest, p.1 ≠ rl := fun p hp => Nat.ne_of_gt (by have := s0 p hp; omega)
  simp only [List.forall_mem_cons] at hI
  obtain ⟨oI0, oI1, oI2, oI3, oI4, oI5, oI6, oI7, oI8, oI9, oIr⟩ := hI
  have hov := seen_ovr (.cons v1 (.cons v5 (.cons v6 (.cons v7 .nil))))
  replace F := frSees F (.cons v1 (.cons v5 (.cons v6 (.cons v7 (.nil)))))
  simp only [ovr] at F
  clear v1 v5 v6 v7
  obtain ⟨m1, hm1, F⟩ := fr_named F
  refine' iterR (fun j m nx => ∃ (owj : Obj) (asj tops : List Int) (hwj avj tv : List Value) (nhj naj nt : Nat) (q3 : Option Value), m = frq (Str.ofString "again") q3 m1 ∧ nx = (rx, instObj 103 rd) :: (rd, dictOf [⟨PyData.keyHash w.params (Str.ofString "address"), .str (Str.ofString "address") k1, .int addr ta⟩, ⟨PyData.keyHash w.params (Str.ofString "topics"), .str (Str.ofString "topics") k2, .ref rt⟩, ⟨PyData.keyHash w.params (Str.ofString "data"), .str (Str.ofString "data") k3, dv⟩] nd) :: (rt, listOf tv.toArray nt) :: (I, oI) :: (wl, owj) :: (q, listOf vs.toArray nq) :: (od, oon) :: (L + 1, oc) :: (x, instObj 138 dx) :: (dx, dictOf [⟨PyData.keyHash w.params (Str.ofString "known"), .str (Str.ofString "known") tkn, .ref kd⟩] nkd) :: (kd, o) :: (hl, listOf hwj.toArray nhj) :: (al, listOf avj.toArray naj) :: (rl, listOf (rv ++ [Value.ref rx]).toArray nr) :: rest ∧ IsWell q ns owj ∧ Grown j a0 asj tops askd addr hwj avj tv)
    ?hh hr (range_small (by omega) (by omega)) (range_size (by omega)) F N ?hj ?_ ?_
  case hh => with_unfolding_all rfl
  case hj => exact ⟨_, _, _, _, _, _, _, _, _, _, frq_self _ _, rfl, hW, G⟩
  · rintro j t m₁ news₁ h tk I2 oI2 hj ⟨owj, asj, tops, hwj, avj, tv, nhj, naj, nt, q3, rfl, rfl, hWj, Gj⟩ hoJ F2 N2
    change Fr h₀ L h _ at F2
    change News h₀ L h _ at N2
    unfold frq at F2
    rw [hm1] at F2
    clear hW hr F N G
    simp only [List.forall_mem_cons] at hoJ
    have hoJ' := hoJ
    obtain ⟨oJ0, oJ1, oJ2, oJ3, oJ4, oJ5, oJ6, oJ7, oJ8, oJ9, oJ10, oJ11, oJ12, oJ13, oJr⟩ := hoJ'
    have iav := Gj.isv
    have hfe := Gj.few
    have han : asj.length ≤ 100 := by omega
    have hav := Gj.lim
    have hava : avj.length ≤ 1000 := by rw [iav.length]; omega
    have htz : tv.length ≤ 1000 := by rw [Gj.tsv.length, Gj.tlen]; omega
    have hwz : hwj.length ≤ 1000 := by
      have h1 := Gj.held.length
      have h2 := Gj.tlen
      rw [h1]
      simp only [List.length_append, List.length_cons, List.length_map]
      omega
    with_unfolding_all (show wpAny _ (ktrTop _ _ _ _ ⟨_, _, _, _, _⟩ _ _ _ _ _) (execs (_ :: _) (envX _ ⟨_, _, _, _, _⟩ _ _ _ _)) _ _ _)
    revert X; k_fill; intro X
    repeat' (first | (with_reducible (k_here; (with_reducible show wpAny _ _ (call (Value.ref 161) _) _ _ _); k_dflt (refine' number_ok ?BZZ ?FZZ ?XZZ ?NZZ ?TZZ ?hkZZ ?m1ZZ ?hWZZ ?m2ZZ ?m3ZZ ?UZZ ?hqZZ ?haZZ ?ivZZ ?hnZZ ?hvZZ ?iavZZ ?hanZZ ?havZZ ?hmZZ ?hdZZ ?huZZ ?_; (case BZZ => k_asm); (case FZZ => k_asm); (case XZZ => k_asm); (case NZZ => k_asm); (case TZZ => k_asm); (case hkZZ => first | exact rfl | assumption); (case hWZZ => assumption); (case ivZZ => assumption); (case iavZZ => assumption); (case hmZZ => exact .inr ⟨rfl, rfl⟩); (case m1ZZ => k_mem); (case m2ZZ => k_mem); (case m3ZZ => k_mem); (case UZZ => intro o'Z; k_upd); (case hqZZ => assumption); (case haZZ => assumption); (case hnZZ => assumption); (case hvZZ => assumption); (case hanZZ => assumption); (case havZZ => assumption); (case hdZZ => ktr_room); (case huZZ => ktr_units)); intro r9Z t9Z o9Z h'Z tk'Z hr0Z hr1Z hW'Z F'Z N'Z; (try dsimp only))) | (k_here; (with_reducible show wpAny _ _ (call (Value.ref 161) _) _ _ _); k_dflt (refine' number_ok ?BZZ ?FZZ ?XZZ ?NZZ ?TZZ ?hkZZ ?m1ZZ ?hWZZ ?m2ZZ ?m3ZZ ?UZZ ?hqZZ ?haZZ ?ivZZ ?hnZZ ?hvZZ ?iavZZ ?hanZZ ?havZZ ?hmZZ ?hdZZ ?huZZ ?_; (case BZZ => k_asm); (case FZZ => k_asm); (case XZZ => k_asm); (case NZZ => k_asm); (case TZZ => k_asm); (case hkZZ => first | exact rfl | assumption); (case hWZZ => assumption); (case ivZZ => assumption); (case iavZZ => assumption); (case hmZZ => exact .inr ⟨rfl, rfl⟩); (case m1ZZ => k_mem); (case m2ZZ => k_mem); (case m3ZZ => k_mem); (case UZZ => intro o'Z; k_upd); (case hqZZ => assumption); (case haZZ => assumption); (case hnZZ => assumption); (case hvZZ => assumption); (case hanZZ => assumption); (case havZZ => assumption); (case hdZZ => ktr_room); (case huZZ => ktr_units)); intro r9Z t9Z o9Z h'Z tk'Z hr0Z hr1Z hW'Z F'Z N'Z; (try dsimp only)) | (with_reducible (k_here; (with_reducible show wpAny _ _ (call (Value.ref 166) _) _ _ _); k_dflt (refine' octets_ok ?BZZ ?FZZ ?XZZ ?NZZ ?TZZ ?hkZZ ?hn0ZZ ?hn1ZZ ?hmZZ ?hdZZ ?huZZ ?_; (case BZZ => k_asm); (case FZZ => k_asm); (case XZZ => k_asm); (case NZZ => k_asm); (case TZZ => k_asm); (case hkZZ => first | exact rfl | assumption); (case hmZZ => exact .inr ⟨rfl, rfl⟩); (case hn0ZZ => assumption); (case hn1ZZ => assumption); (case hdZZ => ktr_room); (case huZZ => ktr_units)); intro b9Z t9Z h'Z tk'Z hb9Z F'Z N'Z; (try dsimp only))) | (k_here; (with_reducible show wpAny _ _ (call (Value.ref 166) _) _ _ _); k_dflt (refine' octets_ok ?BZZ ?FZZ ?XZZ ?NZZ ?TZZ ?hkZZ ?hn0ZZ ?hn1ZZ ?hmZZ ?hdZZ ?huZZ ?_; (case BZZ => k_asm); (case FZZ => k_asm); (case XZZ => k_asm); (case NZZ => k_asm); (case TZZ => k_asm); (case hkZZ => first | exact rfl | assumption); (case hmZZ => exact .inr ⟨rfl, rfl⟩); (case hn0ZZ => assumption); (case hn1ZZ => assumption); (case hdZZ => ktr_room); (case huZZ => ktr_units)); intro b9Z t9Z h'Z tk'Z hb9Z F'Z N'Z; (try dsimp only)) | (with_reducible (k_here; (with_reducible show wpAny _ _ (subscriptTail (Expr.Name _ _) (Expr.UnaryOp _ _ _) (Value.ref _) (Value.int _ _)) _ _ _); k_dflt (refine' last_of ?k1ZZ ?k2ZZ ?_; (case k1ZZ => k_asm); (case k2ZZ => k_mem)))) | (k_here; (with_reducible show wpAny _ _ (subscriptTail (Expr.Name _ _) (Expr.UnaryOp _ _ _) (Value.ref _) (Value.int _ _)) _ _ _); k_dflt (refine' last_of ?k1ZZ ?k2ZZ ?_; (case k1ZZ => k_asm); (case k2ZZ => k_mem))) | (with_reducible (k_here; (with_reducible show wpAny _ _ (call (Value.builtin "list.append") _) _ _ _); k_dflt (refine' app_list ?k1ZZ ?k2ZZ ?k3ZZ ?k4ZZ ?k5ZZ ?_; (case k1ZZ => k_asm); (case k2ZZ => k_asm); (case k3ZZ => k_mem); (case k4ZZ => intro o'Z; k_upd); (case k5ZZ => with_reducible assumption)); intro h'Z F'Z N'Z)) | (k_here; (with_reducible show wpAny _ _ (call (Value.builtin "list.append") _) _ _ _); k_dflt (refine' app_list ?k1ZZ ?k2ZZ ?k3ZZ ?k4ZZ ?k5ZZ ?_; (case k1ZZ => k_asm); (case k2ZZ => k_asm); (case k3ZZ => k_mem); (case k4ZZ => intro o'Z; k_upd); (case k5ZZ => with_reducible assumption)); intro h'Z F'Z N'Z) | (k_unfold; (try dsimp only)) | (k_end; kc_close) | walk1 | (dsimp only; walk1) | (leave1; (try dsimp only)) | fail "no step")
    subst hm1
    show EndG _ _ _ _ _ _ _
    rename Fr h₀ L _ _ => F3
    rename News h₀ L _ _ => N3
    rename IsWell q ns _ => W3
    rename KBw.bInts _ = octs _ _ => hb3
    rename _ < (256 : Int) ^ 32 => hlt
    rename 0 ≤ _ => h03
    refine EndG.intro F3 N3 (.head _) (fun p hp => .tail _ hp) (nx := (rx, instObj 103 rd) :: (rd, dictOf [⟨PyData.keyHash w.params (Str.ofString "address"), .str (Str.ofString "address") k1, .int addr ta⟩, ⟨PyData.keyHash w.params (Str.ofString "topics"), .str (Str.ofString "topics") k2, .ref rt⟩, ⟨PyData.keyHash w.params (Str.ofString "data"), .str (Str.ofString "data") k3, dv⟩] nd) :: (rt, listOf (tv ++ [_]).toArray (nt + 1)) :: (I, oI) :: (wl, _) :: (q, listOf vs.toArray nq) :: (od, oon) :: (L + 1, oc) :: (x, instObj 138 dx) :: (dx, dictOf [⟨PyData.keyHash w.params (Str.ofString "known"), .str (Str.ofString "known") tkn, .ref kd⟩] nkd) :: (kd, o) :: (hl, listOf (hwj ++ [_]).toArray (nhj + 1)) :: (al, listOf (avj ++ [_]).toArray (naj + 1)) :: (rl, listOf (rv ++ [Value.ref rx]).toArray nr) :: rest) ?_ ⟨_, _, _, _, _, _, _, _, _, _, frq_again _ _ _ _, rfl, W3, Gj.step _ _ _ h03 hlt hb3⟩
    simp only [List.forall_mem_cons]
    exact hoJ
  · rintro m₁ news₁ h3 tk3 ⟨owj, asj, tops, hwj, avj, tv, nhj, naj, nt, q3, rfl, rfl, hWj, Gj⟩ F6 N6
    change Fr h₀ L h3 _ at F6
    change News h₀ L h3 _ at N6
    rw [hm1.trans hov] at F6
    exact hret _ _ _ _ _ _ _ _ _ _ _ _ hWj Gj F6 N6
end
section
open PySem.Calls
/-- what holds ahead of a turn of the building -/
structure Built (w : World) (i : Nat) (as : List Int) (rows : List RowD) (hw av : List Value) (rest : List (Addr × Obj)) : Prop where
  isv : IntsAre av as
  few : as.length ≤ 5 * i
  lim : ∀ v ∈ as, 0 ≤ v ∧ v < 256 ^ 32
  len : rows.length = i
  inn : RowsIn w rest rows
  hin : ∀ r ∈ rows, (0 ≤ r.addr ∧ r.addr < 256 ^ 20) ∧ (∀ v ∈ r.tops, 0 ≤ v ∧ v < 256 ^ 32) ∧ r.tops.length ≤ 4
  held : BytesAre hw (askAll rows)
  hfew : (askAll rows).length ≤ 5 * i
theorem Built.step {w : World} {i n : Nat} {as asj tops : List Int} {rows : List RowD} {hw av hwj avj tv : List Value} {rest : List (Addr × Obj)} {rx rd rt : Addr} {addr : Int} {k1 k2 k3 ta : Tok} {dv : Value} {nd nt : Nat} (M : Built w i as rows hw av rest) (G : Grown n (5 * i + 1) asj tops (askAll rows) addr hwj avj tv) (hn : n ≤ 4) (h0 : 0 ≤ addr) (h1 : addr < 256 ^ 20) :
    Built w (i + 1) asj (rows ++ [⟨rx, rd, rt, addr, tops⟩]) hwj avj ((rx, instObj 103 rd) :: (rd, dictOf [⟨PyData.keyHash w.params (Str.ofString "address"), .str (Str.ofString "address") k1, .int addr ta⟩, ⟨PyData.keyHash w.params (Str.ofString "topics"), .str (Str.ofString "topics") k2, .ref rt⟩, ⟨PyData.keyHash w.params (Str.ofString "data"), .str (Str.ofString "data") k3, dv⟩] nd) :: (rt, listOf tv.toArray nt) :: rest) := by
  have e : askAll (rows ++ [⟨rx, rd, rt, addr, tops⟩]) = askAll rows ++ octs 20 addr :: tops.map (octs 32) := by
    unfold askAll
    rw [List.flatMap_append]
    simp [rowKeys]
  refine ⟨G.isv, by have := G.few; omega, G.lim, by rw [List.length_append, M.len]; rfl, fun r hr => ?_, fun r hr => ?_, ?_, ?_⟩
  · rcases List.mem_append.mp hr with hr | hr
    · obtain ⟨e1, ⟨j1, j2, j3, ja, jv, jn, e2⟩, ⟨vs, nt, e3, e4⟩⟩ := M.inn r hr
      exact ⟨.tail _ (.tail _ (.tail _ e1)), ⟨j1, j2, j3, ja, jv, jn, .tail _ (.tail _ (.tail _ e2))⟩, ⟨vs, nt, .tail _ (.tail _ (.tail _ e3)), e4⟩⟩
    · rw [List.mem_singleton.mp hr]
      exact ⟨.head _, ⟨k1, k2, k3, ta, dv, nd, .tail _ (.head _)⟩, ⟨tv, nt, .tail _ (.tail _ (.head _)), G.tsv⟩⟩
  · rcases List.mem_append.mp hr with hr | hr
    · exact M.hin r hr
    · rw [List.mem_singleton.mp hr]
      exact ⟨⟨h0, h1⟩, G.tlim, by show tops.length ≤ 4; rw [G.tlen]; exact hn⟩
  · rw [e]; exact G.held
  · rw [e, List.length_append, List.length_cons, List.length_map, G.tlen]
    have := M.hfew
    omega
theorem Built.grow {w : World} {i : Nat} {as : List Int} {rows : List RowD} {hw av : List Value} {rest : List (Addr × Obj)} {addr : Int} {b : Array UInt8} {t1 t2 : Tok} (M : Built w i as rows hw av rest) (h0 : 0 ≤ addr) (h1 : addr < 256 ^ 20) (hb : KBw.bInts b = octs 20 addr) :
    Grown 0 (5 * i + 1) (as ++ [addr]) [] (askAll rows) addr (hw ++ [.bytes b t1]) (av ++ [.int addr t2]) [] :=
  ⟨ints_snoc _ M.isv, by rw [List.length_append]; exact Nat.add_le_add_right M.few 1, lim_snoc M.lim h0 (lt_20 h1), .nil, rfl, fun _ h => (nomatch h), M.held.snoc _ hb⟩
theorem all_last {e1 e2 e3 e4 f1 f2 f3 f4 f5 f6 f7 f8 f9 f10 : Addr × Obj} (rest : List (Addr × Obj)) : ∀ p ∈ f1 :: f2 :: f3 :: f4 :: f5 :: f6 :: f7 :: f8 :: f9 :: f10 :: e1 :: e2 :: e3 :: rest, p ∈ e1 :: e2 :: e3 :: e4 :: f1 :: f2 :: f3 :: f4 :: f5 :: f6 :: f7 :: f8 :: f9 :: f10 :: rest := fun p hp => by
  simp only [List.mem_cons] at hp ⊢
  rcases hp with h | h | h | h | h | h | h | h | h | h | h | h | h | h <;> simp only [h, true_or, or_true]
theorem news_last {h₀ h : Heap} {L : Addr} {e1 e2 e3 e4 f1 f2 f3 f4 f5 f6 f7 f8 f9 f10 : Addr × Obj} {rest : List (Addr × Obj)} (N : News h₀ L h (e1 :: e2 :: e3 :: e4 :: f1 :: f2 :: f3 :: f4 :: f5 :: f6 :: f7 :: f8 :: f9 :: f10 :: rest)) :
    ∃ nx, nx = f1 :: f2 :: f3 :: f4 :: f5 :: f6 :: f7 :: f8 :: f9 :: f10 :: e1 :: e2 :: e3 :: rest ∧ ∀ p ∈ nx, p ∈ e1 :: e2 :: e3 :: e4 :: f1 :: f2 :: f3 :: f4 :: f5 :: f6 :: f7 :: f8 :: f9 :: f10 :: rest := ⟨_, rfl, all_last rest⟩
theorem ask_40 {rows : List RowD} {bs : List Int} (h : bs ∈ askAll rows) : bs.length ≤ 40 := by
  obtain ⟨r, _, h⟩ := List.mem_flatMap.mp h
  rcases List.mem_cons.mp h with rfl | h
  · rw [octs_length]; decide
  · obtain ⟨v, _, rfl⟩ := List.mem_map.mp h
    rw [octs_length]; decide
theorem news_drop3 {h₀ h : Heap} {L : Addr} {a b c : Addr × Obj} {l : List (Addr × Obj)} (N : News h₀ L h (a :: b :: c :: l)) : News h₀ L h (a :: b :: l) := fun p hp => N p (by
  rcases List.mem_cons.mp hp with rfl | hp
  · exact .head _
  · rcases List.mem_cons.mp hp with rfl | hp
    · exact .tail _ (.head _)
    · exact .tail _ (.tail _ (.tail _ hp)))
theorem int_named {a b : Int} (h : a < b) : ∃ c, c = a := ⟨a, rfl⟩
theorem news_row {h₀ h : Heap} {L a d l t : Addr} {o1 o2 o3 o4 : Obj} {rest : List (Addr × Obj)} (N : News h₀ L h ((a, o1) :: (d, o2) :: (l, o3) :: (t, o4) :: rest)) : ∃ a' d' t' : Addr, a' = a ∧ d' = d ∧ t' = t := ⟨_, _, _, rfl, rfl, rfl⟩
set_option maxRecDepth 100000 in
set_option maxHeartbeats 1000000 in
theorem seg4 {oc : Obj} {w : World} {mean : ExcName → Option Value} {mg mb : Str → Option Value} {dp un : Nat} {gd : Option (List Code)} {fa : Addr} {cd : Value} {A₀ : Around} {base h₀ : Heap} {L : Addr} {m : Str → Option Value} {s : Shared} {Q : Flow → Shared → Prop} {wl q od x dx kd hl al rl : Addr} {vs : List Value} {ns : List Int} {nq nkd : Nat} {ow oon o : Obj} {tkn : Tok} {c : List (Int × Int)} {bits : Int} {tb : Tok}
    (B : Below A₀ base [] h₀) (F : Fr h₀ L s.heap m) (X : (Mine.hd.heap_39 w.params).In h₀) (XB : (Mine.hd.heap_39 w.params).In base) (T : Top hd.view_39 (looseW hd.view_39 [Str.ofString "WORD", Str.ofString "LEAST_ADDRESS"]) mean mg mb h₀) (TB : Top hd.view_39 (looseW hd.view_39 [Str.ofString "WORD", Str.ofString "LEAST_ADDRESS"]) mean mg mb base) (N : News h₀ L s.heap ((wl, ow) :: (q, listOf vs.toArray nq) :: (od, oon) :: (L + 1, oc) :: (x, instObj 138 dx) :: (dx, dictOf [⟨PyData.keyHash w.params (Str.ofString "known"), .str (Str.ofString "known") tkn, .ref kd⟩] nkd) :: (kd, o) :: (hl, listOf #[] 0) :: (al, listOf #[] 0) :: (rl, listOf #[] 0) :: []))
    (hxd : x ≠ dx) (hord : @LT.lt Nat _ (L + 1) wl ∧ @LT.lt Nat _ q wl ∧ @LT.lt Nat _ wl x ∧ @LT.lt Nat _ wl dx ∧ @LT.lt Nat _ x kd ∧ @LT.lt Nat _ dx kd ∧ @LT.lt Nat _ kd rl ∧ @LT.lt Nat _ rl hl ∧ @LT.lt Nat _ hl al ∧ @LT.lt Nat _ al od)
    (hW : IsWell q ns ow) (iv : IntsAre vs ns) (hn : ns.length ≤ 60) (hv : ∀ v ∈ ns, 0 ≤ v ∧ v < 2147483647)
    (hsk : (kd == sysModules) = false) (hD : Bears w o c) (hT : Tidy c) (hc : c.length ≤ 500)
    (hb0 : 3 ≤ bits) (hb1 : bits ≤ 11) (hs : (od == sysModules) = false) (hon : IsOn w oon [])
    (v1 : m (Str.ofString "well") = some (.ref wl)) (v2 : m (Str.ofString "bits") = some (.int bits tb)) (v4 : m (Str.ofString "digester") = some (.ref x)) (v5 : m (Str.ofString "held") = some (.ref hl)) (v6 : m (Str.ofString "ahead") = some (.ref al)) (v7 : m (Str.ofString "rows") = some (.ref rl))
    (hoc : oc.data = .cell (some (.ref od))) (hQ : ∀ h' tk' m', Fr h₀ L h' m' → Q (.ret (.bool true)) { s with heap := h', toks := tk' }) (hd : dp + 60 < recursionLimit) (hu : un + 600 < cLine) : wpAny (model PySem.Challenge.rw_pq0387_01.row.prog w) (ktrTop dp un gd (Str.ofString "law") (lawScope w.params) L fa cd [(Str.ofString "on", L + 1)] []) (execs (lawTail w.params 4) (envX (Str.ofString "law") (lawScope w.params) L fa cd [(Str.ofString "on", L + 1)])) Q (fun _ _ => False) s := by
  w_top off
  obtain ⟨a0, a1, a2, a3, a4, a5, a6, a7, a8, a9⟩ := hord
  have hq : q ≠ wl := Nat.ne_of_lt a1
  have ha : al ≠ wl := Nat.ne_of_gt (by omega)
  replace F := frSees F (.cons v1 (.cons v2 (.cons v4 (.cons v5 (.cons v6 (.cons v7 (.nil)))))))
  simp only [ovr] at F
  clear v1 v2 v4 v5 v6 v7
  with_unfolding_all (show wpAny _ (ktrTop _ _ _ _ ⟨_, _, _, _, _⟩ _ _ _ _ _) (execs (_ :: _) (envX _ ⟨_, _, _, _, _⟩ _ _ _ _)) _ _ _)
  revert X; k_fill; intro X
  repeat' (first | (with_reducible (k_here; (with_reducible show wpAny _ _ (call (Value.ref 161) _) _ _ _); k_dflt (refine' number_ok ?BZZ ?FZZ ?XZZ ?NZZ ?TZZ ?hkZZ ?m1ZZ ?hWZZ ?m2ZZ ?m3ZZ ?UZZ ?hqZZ ?haZZ ?ivZZ ?hnZZ ?hvZZ ?iavZZ ?hanZZ ?havZZ ?hmZZ ?hdZZ ?huZZ ?_; (case BZZ => k_asm); (case FZZ => k_asm); (case XZZ => k_asm); (case NZZ => k_asm); (case TZZ => k_asm); (case hkZZ => first | exact rfl | assumption); (case hWZZ => assumption); (case ivZZ => assumption); (case iavZZ => assumption); (case hmZZ => exact .inl ⟨rfl, rfl⟩); (case m1ZZ => k_mem); (case m2ZZ => k_mem); (case m3ZZ => k_mem); (case UZZ => intro o'Z; k_upd); (case hqZZ => assumption); (case haZZ => assumption); (case hnZZ => assumption); (case hvZZ => assumption); (case hanZZ => assumption); (case havZZ => assumption); (case hdZZ => ktr_room); (case huZZ => ktr_units)); intro r9Z t9Z o9Z h'Z tk'Z hr0Z hr1Z hW'Z F'Z N'Z; (try dsimp only))) | (k_here; (with_reducible show wpAny _ _ (call (Value.ref 161) _) _ _ _); k_dflt (refine' number_ok ?BZZ ?FZZ ?XZZ ?NZZ ?TZZ ?hkZZ ?m1ZZ ?hWZZ ?m2ZZ ?m3ZZ ?UZZ ?hqZZ ?haZZ ?ivZZ ?hnZZ ?hvZZ ?iavZZ ?hanZZ ?havZZ ?hmZZ ?hdZZ ?huZZ ?_; (case BZZ => k_asm); (case FZZ => k_asm); (case XZZ => k_asm); (case NZZ => k_asm); (case TZZ => k_asm); (case hkZZ => first | exact rfl | assumption); (case hWZZ => assumption); (case ivZZ => assumption); (case iavZZ => assumption); (case hmZZ => exact .inl ⟨rfl, rfl⟩); (case m1ZZ => k_mem); (case m2ZZ => k_mem); (case m3ZZ => k_mem); (case UZZ => intro o'Z; k_upd); (case hqZZ => assumption); (case haZZ => assumption); (case hnZZ => assumption); (case hvZZ => assumption); (case hanZZ => assumption); (case havZZ => assumption); (case hdZZ => ktr_room); (case huZZ => ktr_units)); intro r9Z t9Z o9Z h'Z tk'Z hr0Z hr1Z hW'Z F'Z N'Z; (try dsimp only)) | (with_reducible (k_here; (with_reducible show wpAny _ _ (call (Value.ref 166) _) _ _ _); k_dflt (refine' octets_ok ?BZZ ?FZZ ?XZZ ?NZZ ?TZZ ?hkZZ ?hn0ZZ ?hn1ZZ ?hmZZ ?hdZZ ?huZZ ?_; (case BZZ => k_asm); (case FZZ => k_asm); (case XZZ => k_asm); (case NZZ => k_asm); (case TZZ => k_asm); (case hkZZ => first | exact rfl | assumption); (case hmZZ => exact .inl ⟨rfl, rfl⟩); (case hn0ZZ => assumption); (case hn1ZZ => exact lt_20 (by with_reducible assumption)); (case hdZZ => ktr_room); (case huZZ => ktr_units)); intro b9Z t9Z h'Z tk'Z hb9Z F'Z N'Z; (try dsimp only))) | (k_here; (with_reducible show wpAny _ _ (call (Value.ref 166) _) _ _ _); k_dflt (refine' octets_ok ?BZZ ?FZZ ?XZZ ?NZZ ?TZZ ?hkZZ ?hn0ZZ ?hn1ZZ ?hmZZ ?hdZZ ?huZZ ?_; (case BZZ => k_asm); (case FZZ => k_asm); (case XZZ => k_asm); (case NZZ => k_asm); (case TZZ => k_asm); (case hkZZ => first | exact rfl | assumption); (case hmZZ => exact .inl ⟨rfl, rfl⟩); (case hn0ZZ => assumption); (case hn1ZZ => exact lt_20 (by with_reducible assumption)); (case hdZZ => ktr_room); (case huZZ => ktr_units)); intro b9Z t9Z h'Z tk'Z hb9Z F'Z N'Z; (try dsimp only)) | (with_reducible (k_here; (with_reducible show wpAny _ _ (call (Value.ref 154) _) _ _ _); k_dflt (refine' draw_ok ?BZZ ?FZZ ?XZZ ?NZZ ?TZZ ?hkZZ ?m1ZZ ?m2ZZ ?hWZZ ?UZZ ?hqZZ ?ivZZ ?hnZZ ?hvZZ ?hz0ZZ ?hz1ZZ ?hdZZ ?huZZ ?_; (case BZZ => k_asm); (case FZZ => k_asm); (case XZZ => k_asm); (case NZZ => k_asm); (case TZZ => k_asm); (case hkZZ => first | exact rfl | assumption); (case hWZZ => assumption); (case m1ZZ => k_mem); (case m2ZZ => k_mem); (case UZZ => intro o'Z; k_upd); (case hqZZ => assumption); (case ivZZ => assumption); (case hnZZ => assumption); (case hvZZ => assumption); (case hz0ZZ => omega); (case hz1ZZ => omega); (case hdZZ => ktr_room); (case huZZ => ktr_units)); intro r9Z t9Z o9Z h'Z tk'Z hr0Z hr1Z hW'Z F'Z N'Z; (try dsimp only))) | (k_here; (with_reducible show wpAny _ _ (call (Value.ref 154) _) _ _ _); k_dflt (refine' draw_ok ?BZZ ?FZZ ?XZZ ?NZZ ?TZZ ?hkZZ ?m1ZZ ?m2ZZ ?hWZZ ?UZZ ?hqZZ ?ivZZ ?hnZZ ?hvZZ ?hz0ZZ ?hz1ZZ ?hdZZ ?huZZ ?_; (case BZZ => k_asm); (case FZZ => k_asm); (case XZZ => k_asm); (case NZZ => k_asm); (case TZZ => k_asm); (case hkZZ => first | exact rfl | assumption); (case hWZZ => assumption); (case m1ZZ => k_mem); (case m2ZZ => k_mem); (case UZZ => intro o'Z; k_upd); (case hqZZ => assumption); (case ivZZ => assumption); (case hnZZ => assumption); (case hvZZ => assumption); (case hz0ZZ => omega); (case hz1ZZ => omega); (case hdZZ => ktr_room); (case huZZ => ktr_units)); intro r9Z t9Z o9Z h'Z tk'Z hr0Z hr1Z hW'Z F'Z N'Z; (try dsimp only)) | (with_reducible (k_here; (with_reducible show wpAny _ _ (call (Value.builtin "list.append") _) _ _ _); k_dflt (refine' app_list ?k1ZZ ?k2ZZ ?k3ZZ ?k4ZZ ?k5ZZ ?_; (case k1ZZ => k_asm); (case k2ZZ => k_asm); (case k3ZZ => k_mem); (case k4ZZ => intro o'Z; k_upd); (case k5ZZ => with_reducible assumption)); intro h'Z F'Z N'Z)) | (k_here; (with_reducible show wpAny _ _ (call (Value.builtin "list.append") _) _ _ _); k_dflt (refine' app_list ?k1ZZ ?k2ZZ ?k3ZZ ?k4ZZ ?k5ZZ ?_; (case k1ZZ => k_asm); (case k2ZZ => k_asm); (case k3ZZ => k_mem); (case k4ZZ => intro o'Z; k_upd); (case k5ZZ => with_reducible assumption)); intro h'Z F'Z N'Z) | (with_reducible (k_here; (with_reducible show wpAny _ _ (call (Value.type "range") _) _ _ _); k_dflt (refine' range_at ?k1ZZ ?k2ZZ ?_; (case k1ZZ => k_asm); (case k2ZZ => k_asm)); intro r9Z h'Z tk9Z t9Z u9Z v9Z hr9Z F'Z N'Z)) | (k_here; (with_reducible show wpAny _ _ (call (Value.type "range") _) _ _ _); k_dflt (refine' range_at ?k1ZZ ?k2ZZ ?_; (case k1ZZ => k_asm); (case k2ZZ => k_asm)); intro r9Z h'Z tk9Z t9Z u9Z v9Z hr9Z F'Z N'Z) | (with_reducible (k_here; (with_reducible show wpAny _ _ (pyIter (Value.ref _)) _ _ _); refine halt ?_)) | (k_unfold; (try dsimp only)) | (k_end; kc_close) | walk1 | (dsimp only; walk1) | (leave1; (try dsimp only)) | fail "no step")
  refine (?_ : wpAny _ _ _ _ _ _)
  rename Fr h₀ L _ _ => F1
  rename News h₀ L _ _ => N1
  rename IsRange _ _ _ _ _ _ _ _ => hr
  rename IsWell _ _ _ => hW1
  rename 0 ≤ _ => hz0
  rename _ < 5 => hz1
  obtain ⟨m0, hm0, F1⟩ := fr_named F1
  refine' iterR (fun i m nx => ∃ (owi : Obj) (as : List Int) (rows : List RowD) (hw av : List Value) (rest : List (Addr × Obj)) (nh na nr : Nat) (q1 q2 : Option Value), m = frq (Str.ofString "turn") q1 (frq (Str.ofString "again") q2 m0) ∧ nx = (wl, owi) :: (q, listOf vs.toArray nq) :: (od, oon) :: (L + 1, oc) :: (x, instObj 138 dx) :: (dx, dictOf [⟨PyData.keyHash w.params (Str.ofString "known"), .str (Str.ofString "known") tkn, .ref kd⟩] nkd) :: (kd, o) :: (hl, listOf hw.toArray nh) :: (al, listOf av.toArray na) :: (rl, listOf (rows.map fun r => Value.ref r.a).toArray nr) :: rest ∧ IsWell q ns owi ∧ Built w i as rows hw av rest ∧ ∀ p ∈ rest, @LT.lt Nat _ od p.1)
    ?hh hr (range_small (by omega) (by omega)) (range_size (by omega)) F1 N1 ?hj ?_ ?_
  case hh => with_unfolding_all rfl
  case hj => exact ⟨_, [], [], [], [], [], _, _, _, _, _, frq2_self _ _ _, rfl, hW1, ⟨.nil, Nat.le_refl _, fun _ h => (nomatch h), rfl, fun _ h => (nomatch h), fun _ h => (nomatch h), .nil, Nat.le_refl _⟩, fun _ h => (nomatch h)⟩
  · rintro i t m₁ news₁ h tk I oI hi ⟨owi, as, rows, hw, av, rest, nh, na, nr, q1, q2, rfl, rfl, hWi, M, hrest⟩ hoI F2 N2
    change Fr h₀ L h _ at F2
    change News h₀ L h _ at N2
    unfold frq at F2
    have hm0' := hm0
    subst hm0'
    clear hW hW1 hr F1 N1 N
    simp only [List.forall_mem_cons] at hoI
    have hoI' := hoI
    obtain ⟨oI0, oI1, oI2, oI3, oI4, oI5, oI6, oI7, oI8, oI9, oIr⟩ := hoI'
    have iav := M.isv
    have hfe := M.few
    have han : as.length ≤ 100 := by omega
    have hav := M.lim
    have hava : av.length ≤ 1000 := by rw [iav.length]; omega
    have hrz : (rows.map fun r => Value.ref r.a).length ≤ 1000 := by rw [List.length_map, M.len]; omega
    have hwz : hw.length ≤ 1000 := by
      have h1 := M.held.length
      have h2 := M.hfew
      omega
    have s1 : ∀ p ∈ rest, p.1 ≠ wl := fun p hp => Nat.ne_of_gt (by have := hrest p hp; omega)
    have s2 : ∀ p ∈ rest, p.1 ≠ hl := fun p hp => Nat.ne_of_gt (by have := hrest p hp; omega)
    have s3 : ∀ p ∈ rest, p.1 ≠ al := fun p hp => Nat.ne_of_gt (by have := hrest p hp; omega)
    have s4 : ∀ p ∈ rest, p.1 ≠ rl := fun p hp => Nat.ne_of_gt (by have := hrest p hp; omega)
    repeat' (first | (with_reducible (k_here; (with_reducible show wpAny _ _ (call (Value.ref 161) _) _ _ _); k_dflt (refine' number_ok ?BZZ ?FZZ ?XZZ ?NZZ ?TZZ ?hkZZ ?m1ZZ ?hWZZ ?m2ZZ ?m3ZZ ?UZZ ?hqZZ ?haZZ ?ivZZ ?hnZZ ?hvZZ ?iavZZ ?hanZZ ?havZZ ?hmZZ ?hdZZ ?huZZ ?_; (case BZZ => k_asm); (case FZZ => k_asm); (case XZZ => k_asm); (case NZZ => k_asm); (case TZZ => k_asm); (case hkZZ => first | exact rfl | assumption); (case hWZZ => assumption); (case ivZZ => assumption); (case iavZZ => assumption); (case hmZZ => exact .inl ⟨rfl, rfl⟩); (case m1ZZ => k_mem); (case m2ZZ => k_mem); (case m3ZZ => k_mem); (case UZZ => intro o'Z; k_upd); (case hqZZ => assumption); (case haZZ => assumption); (case hnZZ => assumption); (case hvZZ => assumption); (case hanZZ => assumption); (case havZZ => assumption); (case hdZZ => ktr_room); (case huZZ => ktr_units)); intro r9Z t9Z o9Z h'Z tk'Z hr0Z hr1Z hW'Z F'Z N'Z; (try dsimp only))) | (k_here; (with_reducible show wpAny _ _ (call (Value.ref 161) _) _ _ _); k_dflt (refine' number_ok ?BZZ ?FZZ ?XZZ ?NZZ ?TZZ ?hkZZ ?m1ZZ ?hWZZ ?m2ZZ ?m3ZZ ?UZZ ?hqZZ ?haZZ ?ivZZ ?hnZZ ?hvZZ ?iavZZ ?hanZZ ?havZZ ?hmZZ ?hdZZ ?huZZ ?_; (case BZZ => k_asm); (case FZZ => k_asm); (case XZZ => k_asm); (case NZZ => k_asm); (case TZZ => k_asm); (case hkZZ => first | exact rfl | assumption); (case hWZZ => assumption); (case ivZZ => assumption); (case iavZZ => assumption); (case hmZZ => exact .inl ⟨rfl, rfl⟩); (case m1ZZ => k_mem); (case m2ZZ => k_mem); (case m3ZZ => k_mem); (case UZZ => intro o'Z; k_upd); (case hqZZ => assumption); (case haZZ => assumption); (case hnZZ => assumption); (case hvZZ => assumption); (case hanZZ => assumption); (case havZZ => assumption); (case hdZZ => ktr_room); (case huZZ => ktr_units)); intro r9Z t9Z o9Z h'Z tk'Z hr0Z hr1Z hW'Z F'Z N'Z; (try dsimp only)) | (with_reducible (k_here; (with_reducible show wpAny _ _ (call (Value.ref 166) _) _ _ _); k_dflt (refine' octets_ok ?BZZ ?FZZ ?XZZ ?NZZ ?TZZ ?hkZZ ?hn0ZZ ?hn1ZZ ?hmZZ ?hdZZ ?huZZ ?_; (case BZZ => k_asm); (case FZZ => k_asm); (case XZZ => k_asm); (case NZZ => k_asm); (case TZZ => k_asm); (case hkZZ => first | exact rfl | assumption); (case hmZZ => exact .inl ⟨rfl, rfl⟩); (case hn0ZZ => assumption); (case hn1ZZ => exact lt_20 (by with_reducible assumption)); (case hdZZ => ktr_room); (case huZZ => ktr_units)); intro b9Z t9Z h'Z tk'Z hb9Z F'Z N'Z; (try dsimp only))) | (k_here; (with_reducible show wpAny _ _ (call (Value.ref 166) _) _ _ _); k_dflt (refine' octets_ok ?BZZ ?FZZ ?XZZ ?NZZ ?TZZ ?hkZZ ?hn0ZZ ?hn1ZZ ?hmZZ ?hdZZ ?huZZ ?_; (case BZZ => k_asm); (case FZZ => k_asm); (case XZZ => k_asm); (case NZZ => k_asm); (case TZZ => k_asm); (case hkZZ => first | exact rfl | assumption); (case hmZZ => exact .inl ⟨rfl, rfl⟩); (case hn0ZZ => assumption); (case hn1ZZ => exact lt_20 (by with_reducible assumption)); (case hdZZ => ktr_room); (case huZZ => ktr_units)); intro b9Z t9Z h'Z tk'Z hb9Z F'Z N'Z; (try dsimp only)) | (with_reducible (k_here; (with_reducible show wpAny _ _ (call (Value.ref 154) _) _ _ _); k_dflt (refine' draw_ok ?BZZ ?FZZ ?XZZ ?NZZ ?TZZ ?hkZZ ?m1ZZ ?m2ZZ ?hWZZ ?UZZ ?hqZZ ?ivZZ ?hnZZ ?hvZZ ?hz0ZZ ?hz1ZZ ?hdZZ ?huZZ ?_; (case BZZ => k_asm); (case FZZ => k_asm); (case XZZ => k_asm); (case NZZ => k_asm); (case TZZ => k_asm); (case hkZZ => first | exact rfl | assumption); (case hWZZ => assumption); (case m1ZZ => k_mem); (case m2ZZ => k_mem); (case UZZ => intro o'Z; k_upd); (case hqZZ => assumption); (case ivZZ => assumption); (case hnZZ => assumption); (case hvZZ => assumption); (case hz0ZZ => omega); (case hz1ZZ => omega); (case hdZZ => ktr_room); (case huZZ => ktr_units)); intro r9Z t9Z o9Z h'Z tk'Z hr0Z hr1Z hW'Z F'Z N'Z; (try dsimp only))) | (k_here; (with_reducible show wpAny _ _ (call (Value.ref 154) _) _ _ _); k_dflt (refine' draw_ok ?BZZ ?FZZ ?XZZ ?NZZ ?TZZ ?hkZZ ?m1ZZ ?m2ZZ ?hWZZ ?UZZ ?hqZZ ?ivZZ ?hnZZ ?hvZZ ?hz0ZZ ?hz1ZZ ?hdZZ ?huZZ ?_; (case BZZ => k_asm); (case FZZ => k_asm); (case XZZ => k_asm); (case NZZ => k_asm); (case TZZ => k_asm); (case hkZZ => first | exact rfl | assumption); (case hWZZ => assumption); (case m1ZZ => k_mem); (case m2ZZ => k_mem); (case UZZ => intro o'Z; k_upd); (case hqZZ => assumption); (case ivZZ => assumption); (case hnZZ => assumption); (case hvZZ => assumption); (case hz0ZZ => omega); (case hz1ZZ => omega); (case hdZZ => ktr_room); (case huZZ => ktr_units)); intro r9Z t9Z o9Z h'Z tk'Z hr0Z hr1Z hW'Z F'Z N'Z; (try dsimp only)) | (with_reducible (k_here; (with_reducible show wpAny _ _ (call (Value.builtin "list.append") _) _ _ _); k_dflt (refine' app_list ?k1ZZ ?k2ZZ ?k3ZZ ?k4ZZ ?k5ZZ ?_; (case k1ZZ => k_asm); (case k2ZZ => k_asm); (case k3ZZ => k_mem); (case k4ZZ => intro o'Z; k_upd); (case k5ZZ => with_reducible assumption)); intro h'Z F'Z N'Z)) | (k_here; (with_reducible show wpAny _ _ (call (Value.builtin "list.append") _) _ _ _); k_dflt (refine' app_list ?k1ZZ ?k2ZZ ?k3ZZ ?k4ZZ ?k5ZZ ?_; (case k1ZZ => k_asm); (case k2ZZ => k_asm); (case k3ZZ => k_mem); (case k4ZZ => intro o'Z; k_upd); (case k5ZZ => with_reducible assumption)); intro h'Z F'Z N'Z) | (with_reducible (k_here; (with_reducible show wpAny _ _ (call (Value.type "range") _) _ _ _); k_dflt (refine' range_at ?k1ZZ ?k2ZZ ?_; (case k1ZZ => k_asm); (case k2ZZ => k_asm)); intro r9Z h'Z tk9Z t9Z u9Z v9Z hr9Z F'Z N'Z)) | (k_here; (with_reducible show wpAny _ _ (call (Value.type "range") _) _ _ _); k_dflt (refine' range_at ?k1ZZ ?k2ZZ ?_; (case k1ZZ => k_asm); (case k2ZZ => k_asm)); intro r9Z h'Z tk9Z t9Z u9Z v9Z hr9Z F'Z N'Z) | (with_reducible (k_here; (with_reducible show wpAny _ _ (pyIter (Value.ref _)) _ _ _); refine halt ?_)) | (k_unfold; (try dsimp only)) | (k_end; kc_close) | walk1 | (dsimp only; walk1) | (leave1; (try dsimp only)) | fail "no step")
    refine (?_ : wpAny _ _ _ _ _ _)
    rename Fr h₀ L _ _ => F8
    rename News h₀ L _ _ => N8
    rename IsRange _ _ _ _ _ _ _ _ => hr8
    rename IsWell q ns _ => hW8
    rename KBw.bInts _ = octs 20 _ => hb8
    rename _ < (256 : Int) ^ 20 => hr20
    rename _ < (5 : Int) => hz3
    rename (_ < _ ∧ _ < _ ∧ _ < _ ∧ _ < _ ∧ _ < _ ∧ _ < _ ∧ _ < _ ∧ _ < _ ∧ _ < _ ∧ _ < _ ∧ _ < _ ∧ _ < _ ∧ _ < _ ∧ AllLt _ _) => l1
    obtain ⟨rx, rd, rt, rfl, rfl, rfl⟩ := news_row N8
    rename rd < rx => l2
    rename (_ < rt ∧ _) => l0
    have s5 : ∀ p ∈ rest, p.1 ≠ rt := tbn_neAll l0.2.2.2.2.2.2.2.2.2.2.2
    obtain ⟨y0, -, -, y1, -⟩ := l0
    obtain ⟨-, y2, -⟩ := l1
    obtain ⟨addr, rfl⟩ := int_named hr20
    rename 0 ≤ addr => h20
    have hI10 : ∀ p ∈ (wl, oI) :: (q, oI) :: (od, oI) :: (L + 1, oI) :: (x, oI) :: (dx, oI) :: (kd, oI) :: (hl, oI) :: (al, oI) :: (rl, oI) :: rest, p.1 ≠ I := by
      simp only [List.forall_mem_cons]
      exact hoI
    have hask := M.hfew
    have hrz5 : (rows.map fun r => Value.ref r.a).length ≤ 50 := by rw [List.length_map, M.len]; omega
    refine inner4 B F8 X T (news_drop3 N8) hxd ⟨a0, a1, a2, a3, a4, a5, a6, a7, a8, a9, y1, y2, l2, y0⟩ hI10 hrest s5 hW8 iv hn hv (M.grow h20 hr20 hb8) (by omega) (by omega) hrz5 hr8 (by assumption) hz3 ?v1 ?v5 ?v6 ?v7 hd hu ?_
    case v1 => with_unfolding_all rfl
    case v5 => with_unfolding_all rfl
    case v6 => with_unfolding_all rfl
    case v7 => with_unfolding_all rfl
    intro owj asj tops hwj avj tv nhj naj nt q3 h4 tk4 hW4 G4 F4 N4
    repeat' (first | (with_reducible (k_here; (with_reducible show wpAny _ _ (call (Value.ref 161) _) _ _ _); k_dflt (refine' number_ok ?BZZ ?FZZ ?XZZ ?NZZ ?TZZ ?hkZZ ?m1ZZ ?hWZZ ?m2ZZ ?m3ZZ ?UZZ ?hqZZ ?haZZ ?ivZZ ?hnZZ ?hvZZ ?iavZZ ?hanZZ ?havZZ ?hmZZ ?hdZZ ?huZZ ?_; (case BZZ => k_asm); (case FZZ => k_asm); (case XZZ => k_asm); (case NZZ => k_asm); (case TZZ => k_asm); (case hkZZ => first | exact rfl | assumption); (case hWZZ => assumption); (case ivZZ => assumption); (case iavZZ => assumption); (case hmZZ => exact .inl ⟨rfl, rfl⟩); (case m1ZZ => k_mem); (case m2ZZ => k_mem); (case m3ZZ => k_mem); (case UZZ => intro o'Z; k_upd); (case hqZZ => assumption); (case haZZ => assumption); (case hnZZ => assumption); (case hvZZ => assumption); (case hanZZ => assumption); (case havZZ => assumption); (case hdZZ => ktr_room); (case huZZ => ktr_units)); intro r9Z t9Z o9Z h'Z tk'Z hr0Z hr1Z hW'Z F'Z N'Z; (try dsimp only))) | (k_here; (with_reducible show wpAny _ _ (call (Value.ref 161) _) _ _ _); k_dflt (refine' number_ok ?BZZ ?FZZ ?XZZ ?NZZ ?TZZ ?hkZZ ?m1ZZ ?hWZZ ?m2ZZ ?m3ZZ ?UZZ ?hqZZ ?haZZ ?ivZZ ?hnZZ ?hvZZ ?iavZZ ?hanZZ ?havZZ ?hmZZ ?hdZZ ?huZZ ?_; (case BZZ => k_asm); (case FZZ => k_asm); (case XZZ => k_asm); (case NZZ => k_asm); (case TZZ => k_asm); (case hkZZ => first | exact rfl | assumption); (case hWZZ => assumption); (case ivZZ => assumption); (case iavZZ => assumption); (case hmZZ => exact .inl ⟨rfl, rfl⟩); (case m1ZZ => k_mem); (case m2ZZ => k_mem); (case m3ZZ => k_mem); (case UZZ => intro o'Z; k_upd); (case hqZZ => assumption); (case haZZ => assumption); (case hnZZ => assumption); (case hvZZ => assumption); (case hanZZ => assumption); (case havZZ => assumption); (case hdZZ => ktr_room); (case huZZ => ktr_units)); intro r9Z t9Z o9Z h'Z tk'Z hr0Z hr1Z hW'Z F'Z N'Z; (try dsimp only)) | (with_reducible (k_here; (with_reducible show wpAny _ _ (call (Value.ref 166) _) _ _ _); k_dflt (refine' octets_ok ?BZZ ?FZZ ?XZZ ?NZZ ?TZZ ?hkZZ ?hn0ZZ ?hn1ZZ ?hmZZ ?hdZZ ?huZZ ?_; (case BZZ => k_asm); (case FZZ => k_asm); (case XZZ => k_asm); (case NZZ => k_asm); (case TZZ => k_asm); (case hkZZ => first | exact rfl | assumption); (case hmZZ => exact .inl ⟨rfl, rfl⟩); (case hn0ZZ => assumption); (case hn1ZZ => exact lt_20 (by with_reducible assumption)); (case hdZZ => ktr_room); (case huZZ => ktr_units)); intro b9Z t9Z h'Z tk'Z hb9Z F'Z N'Z; (try dsimp only))) | (k_here; (with_reducible show wpAny _ _ (call (Value.ref 166) _) _ _ _); k_dflt (refine' octets_ok ?BZZ ?FZZ ?XZZ ?NZZ ?TZZ ?hkZZ ?hn0ZZ ?hn1ZZ ?hmZZ ?hdZZ ?huZZ ?_; (case BZZ => k_asm); (case FZZ => k_asm); (case XZZ => k_asm); (case NZZ => k_asm); (case TZZ => k_asm); (case hkZZ => first | exact rfl | assumption); (case hmZZ => exact .inl ⟨rfl, rfl⟩); (case hn0ZZ => assumption); (case hn1ZZ => exact lt_20 (by with_reducible assumption)); (case hdZZ => ktr_room); (case huZZ => ktr_units)); intro b9Z t9Z h'Z tk'Z hb9Z F'Z N'Z; (try dsimp only)) | (with_reducible (k_here; (with_reducible show wpAny _ _ (call (Value.ref 154) _) _ _ _); k_dflt (refine' draw_ok ?BZZ ?FZZ ?XZZ ?NZZ ?TZZ ?hkZZ ?m1ZZ ?m2ZZ ?hWZZ ?UZZ ?hqZZ ?ivZZ ?hnZZ ?hvZZ ?hz0ZZ ?hz1ZZ ?hdZZ ?huZZ ?_; (case BZZ => k_asm); (case FZZ => k_asm); (case XZZ => k_asm); (case NZZ => k_asm); (case TZZ => k_asm); (case hkZZ => first | exact rfl | assumption); (case hWZZ => assumption); (case m1ZZ => k_mem); (case m2ZZ => k_mem); (case UZZ => intro o'Z; k_upd); (case hqZZ => assumption); (case ivZZ => assumption); (case hnZZ => assumption); (case hvZZ => assumption); (case hz0ZZ => omega); (case hz1ZZ => omega); (case hdZZ => ktr_room); (case huZZ => ktr_units)); intro r9Z t9Z o9Z h'Z tk'Z hr0Z hr1Z hW'Z F'Z N'Z; (try dsimp only))) | (k_here; (with_reducible show wpAny _ _ (call (Value.ref 154) _) _ _ _); k_dflt (refine' draw_ok ?BZZ ?FZZ ?XZZ ?NZZ ?TZZ ?hkZZ ?m1ZZ ?m2ZZ ?hWZZ ?UZZ ?hqZZ ?ivZZ ?hnZZ ?hvZZ ?hz0ZZ ?hz1ZZ ?hdZZ ?huZZ ?_; (case BZZ => k_asm); (case FZZ => k_asm); (case XZZ => k_asm); (case NZZ => k_asm); (case TZZ => k_asm); (case hkZZ => first | exact rfl | assumption); (case hWZZ => assumption); (case m1ZZ => k_mem); (case m2ZZ => k_mem); (case UZZ => intro o'Z; k_upd); (case hqZZ => assumption); (case ivZZ => assumption); (case hnZZ => assumption); (case hvZZ => assumption); (case hz0ZZ => omega); (case hz1ZZ => omega); (case hdZZ => ktr_room); (case huZZ => ktr_units)); intro r9Z t9Z o9Z h'Z tk'Z hr0Z hr1Z hW'Z F'Z N'Z; (try dsimp only)) | (with_reducible (k_here; (with_reducible show wpAny _ _ (call (Value.builtin "list.append") _) _ _ _); k_dflt (refine' app_list ?k1ZZ ?k2ZZ ?k3ZZ ?k4ZZ ?k5ZZ ?_; (case k1ZZ => k_asm); (case k2ZZ => k_asm); (case k3ZZ => k_mem); (case k4ZZ => intro o'Z; k_upd); (case k5ZZ => with_reducible assumption)); intro h'Z F'Z N'Z)) | (k_here; (with_reducible show wpAny _ _ (call (Value.builtin "list.append") _) _ _ _); k_dflt (refine' app_list ?k1ZZ ?k2ZZ ?k3ZZ ?k4ZZ ?k5ZZ ?_; (case k1ZZ => k_asm); (case k2ZZ => k_asm); (case k3ZZ => k_mem); (case k4ZZ => intro o'Z; k_upd); (case k5ZZ => with_reducible assumption)); intro h'Z F'Z N'Z) | (with_reducible (k_here; (with_reducible show wpAny _ _ (call (Value.type "range") _) _ _ _); k_dflt (refine' range_at ?k1ZZ ?k2ZZ ?_; (case k1ZZ => k_asm); (case k2ZZ => k_asm)); intro r9Z h'Z tk9Z t9Z u9Z v9Z hr9Z F'Z N'Z)) | (k_here; (with_reducible show wpAny _ _ (call (Value.type "range") _) _ _ _); k_dflt (refine' range_at ?k1ZZ ?k2ZZ ?_; (case k1ZZ => k_asm); (case k2ZZ => k_asm)); intro r9Z h'Z tk9Z t9Z u9Z v9Z hr9Z F'Z N'Z) | (with_reducible (k_here; (with_reducible show wpAny _ _ (pyIter (Value.ref _)) _ _ _); refine halt ?_)) | (k_unfold; (try dsimp only)) | (k_end; kc_close) | walk1 | (dsimp only; walk1) | (leave1; (try dsimp only)) | fail "no step")
    show EndG _ _ _ _ _ _ _
    rw [show (rows.map (fun r => Value.ref r.a) ++ [Value.ref rx]) = (rows ++ [(⟨rx, rd, rt, addr, tops⟩ : RowD)]).map (fun r => Value.ref r.a) from by rw [List.map_append]; rfl] at N4
    obtain ⟨nx, hnx, hall⟩ := news_last N4
    refine EndG.intro F4 N4 (.tail _ (.tail _ (.tail _ (.head _)))) hall ?ho ⟨owj, asj, _, hwj, avj, _, _, _, _, _, _, frq2_again (x := Str.ofString "turn") (y := Str.ofString "again") (by decide) _ _ _ _ _, hnx, hW4, M.step G4 (by omega) h20 hr20, ?hp⟩
    case ho =>
      subst hnx
      simp only [List.forall_mem_cons]
      exact ⟨oI0, oI1, oI2, oI3, oI4, oI5, oI6, oI7, oI8, oI9, neN (by omega), neN (by omega), neN (by omega), oIr⟩
    case hp =>
      simp only [List.forall_mem_cons]
      exact ⟨by omega, by omega, y1, hrest⟩
  · rintro m₁ news₁ h3 tk3 ⟨owi, as, rows, hw, av, rest, nh, na, nr, q1, q2, rfl, rfl, hWi, M, hrest⟩ F6 N6
    change Fr h₀ L h3 _ at F6
    change News h₀ L h3 _ at N6
    rw [hm0] at F6
    have hfe := M.few
    have hhf := M.hfew
    have hle := M.len
    refine seg5 (s := { s with heap := h3, toks := tk3 }) (tb := tb) B F6 X XB T TB N6 M.inn (fun p hp => ?r1) (fun p hp => ?r2) (fun p hp => ?r3) (fun p hp => ?r4) (by omega) (by omega) (by omega) (by omega) (fun p hp => ?r9) (by omega) (by omega) (by omega) (by omega) (by omega) (by omega)
      hq (neN (by omega)) (neN (by omega)) (by omega) (by omega) (by omega) (by omega) ha hWi iv hn hv M.isv (by omega) M.lim hxd (neN (by omega)) (neN (by omega)) (neN (by omega)) (neN (by omega)) (neN (by omega)) (neN (by omega)) (neN (by omega)) (neN (by omega)) hsk hD hT (by omega) (by omega) M.hin M.held (by omega) (fun bs hbs => ask_40 hbs) hb0 hb1 hs hon ?h1 ?h2 ?h3 ?h4 ?h5 ?h6 hoc hQ hd hu
    case r1 => exact Nat.ne_of_gt (by have := hrest p hp; omega)
    case r2 => exact Nat.ne_of_gt (by have := hrest p hp; omega)
    case r3 => exact Nat.ne_of_gt (by have := hrest p hp; omega)
    case r4 => exact Nat.ne_of_gt (by have := hrest p hp; omega)
    case r9 => exact Nat.ne_of_gt (hrest p hp)
    case h1 => with_unfolding_all rfl
    case h2 => with_unfolding_all rfl
    case h3 => with_unfolding_all rfl
    case h4 => with_unfolding_all rfl
    case h5 => with_unfolding_all rfl
    case h6 => with_unfolding_all rfl
end
section
open PySem.Calls
theorem well_named {q : Addr} {ns : List Int} {o : Obj} (h : IsWell q ns o) : ∃ o', o' = o ∧ IsWell q ns o' := ⟨o, rfl, h⟩
theorem news_tail {h₀ h : Heap} {L : Addr} {e : Addr × Obj} {l : List (Addr × Obj)} (N : News h₀ L h (e :: l)) : News h₀ L h l := fun p hp => N p (.tail _ hp)
theorem news_four {h₀ h : Heap} {L a b c d : Addr} {e : Addr × Obj} {o1 o2 o3 o4 : Obj} {l : List (Addr × Obj)} (N : News h₀ L h (e :: (a, o1) :: (b, o2) :: (c, o3) :: (d, o4) :: l)) : ∃ a' b' c' d' : Addr, a' = a ∧ b' = b ∧ c' = c ∧ d' = d := ⟨_, _, _, _, rfl, rfl, rfl, rfl⟩
theorem asks_lim {r : Int} (h0 : 0 ≤ r) (h1 : r < 4) : 0 ≤ ([0, 5, 254, 300] : List Int).getD r.toNat 0 ∧ ([0, 5, 254, 300] : List Int).getD r.toNat 0 ≤ 300 := by
  have h : r = 0 ∨ r = 1 ∨ r = 2 ∨ r = 3 := by omega
  rcases h with rfl | rfl | rfl | rfl <;> decide
set_option maxRecDepth 100000 in
set_option maxHeartbeats 1000000 in
theorem seg2 {w : World} {mean : ExcName → Option Value} {mg mb : Str → Option Value} {dp un : Nat} {gd : Option (List Code)} {fa : Addr} {cd : Value} {A₀ : Around} {base h₀ : Heap} {L : Addr} {m : Str → Option Value} {s : Shared} {Q : Flow → Shared → Prop} {wl q x dx kd : Addr} {vs : List Value} {ns : List Int} {nq nkd : Nat} {ow o oc : Obj} {tkn : Tok} {c : List (Int × Int)} {bits : Int} {tb : Tok} {v₀ : Option Value}
    (B : Below A₀ base [] h₀) (F : Fr h₀ L s.heap m) (X : (Mine.hd.heap_39 w.params).In h₀) (XB : (Mine.hd.heap_39 w.params).In base) (T : Top hd.view_39 (looseW hd.view_39 [Str.ofString "WORD", Str.ofString "LEAST_ADDRESS"]) mean mg mb h₀) (TB : Top hd.view_39 (looseW hd.view_39 [Str.ofString "WORD", Str.ofString "LEAST_ADDRESS"]) mean mg mb base) (N : News h₀ L s.heap [(wl, ow), (q, listOf vs.toArray nq), (L + 1, oc), (x, instObj 138 dx), (dx, dictOf [⟨PyData.keyHash w.params (Str.ofString "known"), .str (Str.ofString "known") tkn, .ref kd⟩] nkd), (kd, o)])
    (hxd : x ≠ dx) (hord : @LT.lt Nat _ (L + 1) wl ∧ @LT.lt Nat _ q wl ∧ @LT.lt Nat _ wl x ∧ @LT.lt Nat _ wl dx ∧ @LT.lt Nat _ x kd ∧ @LT.lt Nat _ dx kd) (hLq : L + 1 ≠ q)
    (hW : IsWell q ns ow) (iv : IntsAre vs ns) (hn : ns.length ≤ 60) (hv : ∀ v ∈ ns, 0 ≤ v ∧ v < 2147483647)
    (hsk : (kd == sysModules) = false) (hD : Bears w o c) (hT : Tidy c) (hc : c.length ≤ 100)
    (hb0 : 3 ≤ bits) (hb1 : bits ≤ 11) (hoc : oc.data = .cell v₀)
    (v1 : m (Str.ofString "well") = some (.ref wl)) (v2 : m (Str.ofString "bits") = some (.int bits tb)) (v4 : m (Str.ofString "digester") = some (.ref x))
    (hQ : ∀ h' tk' m', Fr h₀ L h' m' → Q (.ret (.bool true)) { s with heap := h', toks := tk' }) (hd : dp + 60 < recursionLimit) (hu : un + 600 < cLine) : wpAny (model PySem.Challenge.rw_pq0387_01.row.prog w) (ktrTop dp un gd (Str.ofString "law") (lawScope w.params) L fa cd [(Str.ofString "on", L + 1)] []) (execs (lawTail w.params 2) (envX (Str.ofString "law") (lawScope w.params) L fa cd [(Str.ofString "on", L + 1)])) Q (fun _ _ => False) s := by
  w_top off
  obtain ⟨a0, a1, a2, a3, a4, a5⟩ := hord
  have hq : q ≠ wl := Nat.ne_of_lt a1
  have n2 : x ≠ kd := Nat.ne_of_lt a4
  have n3 : dx ≠ kd := Nat.ne_of_lt a5
  replace F := frSees F (.cons v1 (.cons v2 (.cons v4 (.nil))))
  simp only [ovr] at F
  clear v1 v2 v4
  with_unfolding_all (show wpAny _ (ktrTop _ _ _ _ ⟨_, _, _, _, _⟩ _ _ _ _ _) (execs (_ :: _) (envX _ ⟨_, _, _, _, _⟩ _ _ _ _)) _ _ _)
  revert X; k_fill; intro X
  repeat' (first | (with_reducible (k_here; (with_reducible show wpAny _ _ (call (Value.ref 135) _) _ _ _); k_dflt (refine' of_ok ?BZZ ?FZZ ?XZZ ?NZZ ?TZZ ?hkZZ ?m1ZZ ?m2ZZ ?m3ZZ ?UZZ ?n1ZZ ?n2ZZ ?n3ZZ ?hsZZ ?hbZZ ?hblZZ ?hDZZ ?hTZZ ?hcZZ ?hdZZ ?huZZ ?_; (case BZZ => k_asm); (case FZZ => k_asm); (case XZZ => k_asm); (case NZZ => k_asm); (case TZZ => k_asm); (case hkZZ => first | exact rfl | assumption); (case hbZZ => exact rfl); (case m1ZZ => k_mem); (case m2ZZ => k_mem); (case m3ZZ => k_mem); (case UZZ => intro o'Z; k_upd); (case n1ZZ => assumption); (case n2ZZ => assumption); (case n3ZZ => assumption); (case hsZZ => assumption); (case hblZZ => exact Nat.le_of_ble_eq_true rfl); (case hDZZ => assumption); (case hTZZ => assumption); (case hcZZ => assumption); (case hdZZ => ktr_room); (case huZZ => ktr_units)); intro nZ rZ tZ o'Z c'Z h'Z tk'Z hKnZ hFuZ hclZ hD'Z hbrZ F'Z N'Z; (try dsimp only))) | (k_here; (with_reducible show wpAny _ _ (call (Value.ref 135) _) _ _ _); k_dflt (refine' of_ok ?BZZ ?FZZ ?XZZ ?NZZ ?TZZ ?hkZZ ?m1ZZ ?m2ZZ ?m3ZZ ?UZZ ?n1ZZ ?n2ZZ ?n3ZZ ?hsZZ ?hbZZ ?hblZZ ?hDZZ ?hTZZ ?hcZZ ?hdZZ ?huZZ ?_; (case BZZ => k_asm); (case FZZ => k_asm); (case XZZ => k_asm); (case NZZ => k_asm); (case TZZ => k_asm); (case hkZZ => first | exact rfl | assumption); (case hbZZ => exact rfl); (case m1ZZ => k_mem); (case m2ZZ => k_mem); (case m3ZZ => k_mem); (case UZZ => intro o'Z; k_upd); (case n1ZZ => assumption); (case n2ZZ => assumption); (case n3ZZ => assumption); (case hsZZ => assumption); (case hblZZ => exact Nat.le_of_ble_eq_true rfl); (case hDZZ => assumption); (case hTZZ => assumption); (case hcZZ => assumption); (case hdZZ => ktr_room); (case huZZ => ktr_units)); intro nZ rZ tZ o'Z c'Z h'Z tk'Z hKnZ hFuZ hclZ hD'Z hbrZ F'Z N'Z; (try dsimp only)) | (with_reducible (k_here; (with_reducible show wpAny _ _ (call (Value.ref 154) _) _ _ _); k_dflt (refine' draw_ok ?BZZ ?FZZ ?XZZ ?NZZ ?TZZ ?hkZZ ?m1ZZ ?m2ZZ ?hWZZ ?UZZ ?hqZZ ?ivZZ ?hnZZ ?hvZZ ?hz0ZZ ?hz1ZZ ?hdZZ ?huZZ ?_; (case BZZ => k_asm); (case FZZ => k_asm); (case XZZ => k_asm); (case NZZ => k_asm); (case TZZ => k_asm); (case hkZZ => first | exact rfl | assumption); (case hWZZ => assumption); (case m1ZZ => k_mem); (case m2ZZ => k_mem); (case UZZ => intro o'Z; k_upd); (case hqZZ => assumption); (case ivZZ => assumption); (case hnZZ => assumption); (case hvZZ => assumption); (case hz0ZZ => omega); (case hz1ZZ => omega); (case hdZZ => ktr_room); (case huZZ => ktr_units)); intro r9Z t9Z o9Z h'Z tk'Z hr0Z hr1Z hW'Z F'Z N'Z; (try dsimp only))) | (k_here; (with_reducible show wpAny _ _ (call (Value.ref 154) _) _ _ _); k_dflt (refine' draw_ok ?BZZ ?FZZ ?XZZ ?NZZ ?TZZ ?hkZZ ?m1ZZ ?m2ZZ ?hWZZ ?UZZ ?hqZZ ?ivZZ ?hnZZ ?hvZZ ?hz0ZZ ?hz1ZZ ?hdZZ ?huZZ ?_; (case BZZ => k_asm); (case FZZ => k_asm); (case XZZ => k_asm); (case NZZ => k_asm); (case TZZ => k_asm); (case hkZZ => first | exact rfl | assumption); (case hWZZ => assumption); (case m1ZZ => k_mem); (case m2ZZ => k_mem); (case UZZ => intro o'Z; k_upd); (case hqZZ => assumption); (case ivZZ => assumption); (case hnZZ => assumption); (case hvZZ => assumption); (case hz0ZZ => omega); (case hz1ZZ => omega); (case hdZZ => ktr_room); (case huZZ => ktr_units)); intro r9Z t9Z o9Z h'Z tk'Z hr0Z hr1Z hW'Z F'Z N'Z; (try dsimp only)) | (with_reducible (k_here; (with_reducible show wpAny _ _ (eval (Expr.Dict [] [] _) _) _ _ _); k_dflt (refine' newDict_K ?k1ZZ ?k2ZZ ?k3ZZ ?_; (case k1ZZ => k_asm); (case k2ZZ => k_asm); (case k3ZZ => exact TopRead.nolimit (by k_asm)); k_whole); intro d'Z h'Z o'Z F'Z N'Z l1Z lo'Z hs'Z fs'Z hi'Z fi'Z; (try k_lt l1Z); (try k_sweep))) | (k_here; (with_reducible show wpAny _ _ (eval (Expr.Dict [] [] _) _) _ _ _); k_dflt (refine' newDict_K ?k1ZZ ?k2ZZ ?k3ZZ ?_; (case k1ZZ => k_asm); (case k2ZZ => k_asm); (case k3ZZ => exact TopRead.nolimit (by k_asm)); k_whole); intro d'Z h'Z o'Z F'Z N'Z l1Z lo'Z hs'Z fs'Z hi'Z fi'Z; (try k_lt l1Z); (try k_sweep)) | (with_reducible (k_here; (with_reducible show wpAny _ _ (execs (Stmt.For _ _ (_ :: _ :: _) _ _ :: _) _) _ _ _); refine halt ?_)) | (with_reducible (k_here; (with_reducible show wpAny _ _ (call (Value.type "range") _) _ _ _); k_dflt (refine' range_at ?k1ZZ ?k2ZZ ?_; (case k1ZZ => k_asm); (case k2ZZ => k_asm)); intro r9Z h'Z tk9Z t9Z u9Z v9Z hr9Z F'Z N'Z)) | (k_here; (with_reducible show wpAny _ _ (call (Value.type "range") _) _ _ _); k_dflt (refine' range_at ?k1ZZ ?k2ZZ ?_; (case k1ZZ => k_asm); (case k2ZZ => k_asm)); intro r9Z h'Z tk9Z t9Z u9Z v9Z hr9Z F'Z N'Z) | (with_reducible (k_here; (with_reducible show wpAny _ _ (pyIter (Value.ref _)) _ _ _); refine halt ?_)) | (k_unfold; (try dsimp only)) | (k_end; kc_close) | walk1 | (dsimp only; walk1) | (leave1; (try dsimp only)) | fail "no step")
  refine (?_ : wpAny _ _ _ _ _ _)
  rename Fr h₀ L _ _ => F1
  rename News h₀ L _ _ => N1
  rename IsRange _ _ _ _ _ _ _ _ => hr
  rename IsWell _ _ _ => hW1
  rename 0 ≤ _ => hz0
  rename _ < 4 => hz1
  obtain ⟨b0, b1⟩ := asks_lim hz0 hz1
  obtain ⟨m0, hm0, F1⟩ := fr_named F1
  obtain ⟨ow1, rfl, hW1⟩ := well_named hW1
  replace N1 := news_tail N1
  refine' iterR (fun i m nx => ∃ (oi : Obj) (ci : List (Int × Int)) (q1 : Option Value), m = frq (Str.ofString "turn") q1 m0 ∧ nx = [(wl, ow1), (q, listOf vs.toArray nq), (L + 1, oc), (x, instObj 138 dx), (dx, dictOf [⟨PyData.keyHash w.params (Str.ofString "known"), .str (Str.ofString "known") tkn, .ref kd⟩] nkd), (kd, oi)] ∧ Bears w oi ci ∧ Tidy ci ∧ ci.length ≤ c.length + i)
    ?hh hr (range_small b0 (by omega)) (range_size b0) F1 N1 ?hj ?_ ?_
  case hh => with_unfolding_all rfl
  case hj => exact ⟨_, c, _, frq_self _ _, rfl, hD, hT, Nat.le_refl _⟩
  · rintro i t m₁ news₁ h tk I oI hi ⟨oi, ci, q1, rfl, rfl, hDi, hTi, hli⟩ hoI F2 N2
    change Fr h₀ L h _ at F2
    change News h₀ L h _ at N2
    unfold frq at F2
    rw [hm0] at F2
    clear hW hr F1 N1 hD hT
    simp only [List.forall_mem_cons, List.not_mem_nil, false_implies, implies_true, and_true] at hoI
    have hoI' := hoI
    obtain ⟨oI0, oI1, oI2, oI3, oI4, oI5⟩ := hoI'
    have hci : ci.length ≤ 1000 := by omega
    have hi3 : (i : Int) < 300 := by omega
    have hi0 : (0 : Int) ≤ i := by omega
    have g1 : 0 ≤ Int.fmod (i : Int) 256 := Int.fmod_nonneg_of_pos _ (by decide)
    have g2 : Int.fmod (i : Int) 256 < 256 := Int.fmod_lt_of_pos _ (by decide)
    have g3 : 0 ≤ Int.fdiv (i : Int) 256 := by rw [Int.fdiv_eq_ediv_of_nonneg _ (by decide)]; omega
    have g4 : Int.fdiv (i : Int) 256 < 256 := by rw [Int.fdiv_eq_ediv_of_nonneg _ (by decide)]; omega
    repeat' (first | (with_reducible (k_here; (with_reducible show wpAny _ _ (call (Value.ref 135) _) _ _ _); k_dflt (refine' of_ok ?BZZ ?FZZ ?XZZ ?NZZ ?TZZ ?hkZZ ?m1ZZ ?m2ZZ ?m3ZZ ?UZZ ?n1ZZ ?n2ZZ ?n3ZZ ?hsZZ ?hbZZ ?hblZZ ?hDZZ ?hTZZ ?hcZZ ?hdZZ ?huZZ ?_; (case BZZ => k_asm); (case FZZ => k_asm); (case XZZ => k_asm); (case NZZ => k_asm); (case TZZ => k_asm); (case hkZZ => first | exact rfl | assumption); (case hbZZ => exact rfl); (case m1ZZ => k_mem); (case m2ZZ => k_mem); (case m3ZZ => k_mem); (case UZZ => intro o'Z; k_upd); (case n1ZZ => assumption); (case n2ZZ => assumption); (case n3ZZ => assumption); (case hsZZ => assumption); (case hblZZ => exact Nat.le_of_ble_eq_true rfl); (case hDZZ => assumption); (case hTZZ => assumption); (case hcZZ => assumption); (case hdZZ => ktr_room); (case huZZ => ktr_units)); intro nZ rZ tZ o'Z c'Z h'Z tk'Z hKnZ hFuZ hclZ hD'Z hbrZ F'Z N'Z; (try dsimp only))) | (k_here; (with_reducible show wpAny _ _ (call (Value.ref 135) _) _ _ _); k_dflt (refine' of_ok ?BZZ ?FZZ ?XZZ ?NZZ ?TZZ ?hkZZ ?m1ZZ ?m2ZZ ?m3ZZ ?UZZ ?n1ZZ ?n2ZZ ?n3ZZ ?hsZZ ?hbZZ ?hblZZ ?hDZZ ?hTZZ ?hcZZ ?hdZZ ?huZZ ?_; (case BZZ => k_asm); (case FZZ => k_asm); (case XZZ => k_asm); (case NZZ => k_asm); (case TZZ => k_asm); (case hkZZ => first | exact rfl | assumption); (case hbZZ => exact rfl); (case m1ZZ => k_mem); (case m2ZZ => k_mem); (case m3ZZ => k_mem); (case UZZ => intro o'Z; k_upd); (case n1ZZ => assumption); (case n2ZZ => assumption); (case n3ZZ => assumption); (case hsZZ => assumption); (case hblZZ => exact Nat.le_of_ble_eq_true rfl); (case hDZZ => assumption); (case hTZZ => assumption); (case hcZZ => assumption); (case hdZZ => ktr_room); (case huZZ => ktr_units)); intro nZ rZ tZ o'Z c'Z h'Z tk'Z hKnZ hFuZ hclZ hD'Z hbrZ F'Z N'Z; (try dsimp only)) | (with_reducible (k_here; (with_reducible show wpAny _ _ (call (Value.ref 154) _) _ _ _); k_dflt (refine' draw_ok ?BZZ ?FZZ ?XZZ ?NZZ ?TZZ ?hkZZ ?m1ZZ ?m2ZZ ?hWZZ ?UZZ ?hqZZ ?ivZZ ?hnZZ ?hvZZ ?hz0ZZ ?hz1ZZ ?hdZZ ?huZZ ?_; (case BZZ => k_asm); (case FZZ => k_asm); (case XZZ => k_asm); (case NZZ => k_asm); (case TZZ => k_asm); (case hkZZ => first | exact rfl | assumption); (case hWZZ => assumption); (case m1ZZ => k_mem); (case m2ZZ => k_mem); (case UZZ => intro o'Z; k_upd); (case hqZZ => assumption); (case ivZZ => assumption); (case hnZZ => assumption); (case hvZZ => assumption); (case hz0ZZ => omega); (case hz1ZZ => omega); (case hdZZ => ktr_room); (case huZZ => ktr_units)); intro r9Z t9Z o9Z h'Z tk'Z hr0Z hr1Z hW'Z F'Z N'Z; (try dsimp only))) | (k_here; (with_reducible show wpAny _ _ (call (Value.ref 154) _) _ _ _); k_dflt (refine' draw_ok ?BZZ ?FZZ ?XZZ ?NZZ ?TZZ ?hkZZ ?m1ZZ ?m2ZZ ?hWZZ ?UZZ ?hqZZ ?ivZZ ?hnZZ ?hvZZ ?hz0ZZ ?hz1ZZ ?hdZZ ?huZZ ?_; (case BZZ => k_asm); (case FZZ => k_asm); (case XZZ => k_asm); (case NZZ => k_asm); (case TZZ => k_asm); (case hkZZ => first | exact rfl | assumption); (case hWZZ => assumption); (case m1ZZ => k_mem); (case m2ZZ => k_mem); (case UZZ => intro o'Z; k_upd); (case hqZZ => assumption); (case ivZZ => assumption); (case hnZZ => assumption); (case hvZZ => assumption); (case hz0ZZ => omega); (case hz1ZZ => omega); (case hdZZ => ktr_room); (case huZZ => ktr_units)); intro r9Z t9Z o9Z h'Z tk'Z hr0Z hr1Z hW'Z F'Z N'Z; (try dsimp only)) | (with_reducible (k_here; (with_reducible show wpAny _ _ (eval (Expr.Dict [] [] _) _) _ _ _); k_dflt (refine' newDict_K ?k1ZZ ?k2ZZ ?k3ZZ ?_; (case k1ZZ => k_asm); (case k2ZZ => k_asm); (case k3ZZ => exact TopRead.nolimit (by k_asm)); k_whole); intro d'Z h'Z o'Z F'Z N'Z l1Z lo'Z hs'Z fs'Z hi'Z fi'Z; (try k_lt l1Z); (try k_sweep))) | (k_here; (with_reducible show wpAny _ _ (eval (Expr.Dict [] [] _) _) _ _ _); k_dflt (refine' newDict_K ?k1ZZ ?k2ZZ ?k3ZZ ?_; (case k1ZZ => k_asm); (case k2ZZ => k_asm); (case k3ZZ => exact TopRead.nolimit (by k_asm)); k_whole); intro d'Z h'Z o'Z F'Z N'Z l1Z lo'Z hs'Z fs'Z hi'Z fi'Z; (try k_lt l1Z); (try k_sweep)) | (with_reducible (k_here; (with_reducible show wpAny _ _ (execs (Stmt.For _ _ (_ :: _ :: _) _ _ :: _) _) _ _ _); refine halt ?_)) | (with_reducible (k_here; (with_reducible show wpAny _ _ (call (Value.type "range") _) _ _ _); k_dflt (refine' range_at ?k1ZZ ?k2ZZ ?_; (case k1ZZ => k_asm); (case k2ZZ => k_asm)); intro r9Z h'Z tk9Z t9Z u9Z v9Z hr9Z F'Z N'Z)) | (k_here; (with_reducible show wpAny _ _ (call (Value.type "range") _) _ _ _); k_dflt (refine' range_at ?k1ZZ ?k2ZZ ?_; (case k1ZZ => k_asm); (case k2ZZ => k_asm)); intro r9Z h'Z tk9Z t9Z u9Z v9Z hr9Z F'Z N'Z) | (with_reducible (k_here; (with_reducible show wpAny _ _ (pyIter (Value.ref _)) _ _ _); refine halt ?_)) | (k_unfold; (try dsimp only)) | (k_end; kc_close) | walk1 | (dsimp only; walk1) | (leave1; (try dsimp only)) | fail "no step")
    subst hm0
    show EndG _ _ _ _ _ _ _
    rename Fr h₀ L _ _ => F3
    rename News h₀ L _ _ => N3
    rename Bears w _ _ => b2
    rename Further _ _ => f2
    rename _ ≤ List.length ci + 1 => q2
    refine EndG.intro F3 N3 (by k_mem) (by k_allIn) (nx := [(wl, ow1), (q, listOf vs.toArray nq), (L + 1, oc), (x, instObj 138 dx), (dx, dictOf [⟨PyData.keyHash w.params (Str.ofString "known"), .str (Str.ofString "known") tkn, .ref kd⟩] nkd), (kd, _)]) ?_ ⟨_, _, _, frq_again _ _ _ _, rfl, b2, fur_tidy f2, by omega⟩
    simp only [List.forall_mem_cons, List.not_mem_nil, false_implies, implies_true, and_true]
    exact hoI
  · rintro m₁ news₁ h3 tk3 ⟨oi, ci, q1, rfl, rfl, hDi, hTi, hli⟩ F6 N6
    change Fr h₀ L h3 _ at F6
    change News h₀ L h3 _ at N6
    rw [hm0] at F6
    unfold frq at F6
    refine (?_ : wpAny _ _ _ _ _ _)
    clear hW hr F1 N1 hD hT
    repeat' (first | (with_reducible (k_here; (with_reducible show wpAny _ _ (call (Value.ref 135) _) _ _ _); k_dflt (refine' of_ok ?BZZ ?FZZ ?XZZ ?NZZ ?TZZ ?hkZZ ?m1ZZ ?m2ZZ ?m3ZZ ?UZZ ?n1ZZ ?n2ZZ ?n3ZZ ?hsZZ ?hbZZ ?hblZZ ?hDZZ ?hTZZ ?hcZZ ?hdZZ ?huZZ ?_; (case BZZ => k_asm); (case FZZ => k_asm); (case XZZ => k_asm); (case NZZ => k_asm); (case TZZ => k_asm); (case hkZZ => first | exact rfl | assumption); (case hbZZ => exact rfl); (case m1ZZ => k_mem); (case m2ZZ => k_mem); (case m3ZZ => k_mem); (case UZZ => intro o'Z; k_upd); (case n1ZZ => assumption); (case n2ZZ => assumption); (case n3ZZ => assumption); (case hsZZ => assumption); (case hblZZ => exact Nat.le_of_ble_eq_true rfl); (case hDZZ => assumption); (case hTZZ => assumption); (case hcZZ => assumption); (case hdZZ => ktr_room); (case huZZ => ktr_units)); intro nZ rZ tZ o'Z c'Z h'Z tk'Z hKnZ hFuZ hclZ hD'Z hbrZ F'Z N'Z; (try dsimp only))) | (k_here; (with_reducible show wpAny _ _ (call (Value.ref 135) _) _ _ _); k_dflt (refine' of_ok ?BZZ ?FZZ ?XZZ ?NZZ ?TZZ ?hkZZ ?m1ZZ ?m2ZZ ?m3ZZ ?UZZ ?n1ZZ ?n2ZZ ?n3ZZ ?hsZZ ?hbZZ ?hblZZ ?hDZZ ?hTZZ ?hcZZ ?hdZZ ?huZZ ?_; (case BZZ => k_asm); (case FZZ => k_asm); (case XZZ => k_asm); (case NZZ => k_asm); (case TZZ => k_asm); (case hkZZ => first | exact rfl | assumption); (case hbZZ => exact rfl); (case m1ZZ => k_mem); (case m2ZZ => k_mem); (case m3ZZ => k_mem); (case UZZ => intro o'Z; k_upd); (case n1ZZ => assumption); (case n2ZZ => assumption); (case n3ZZ => assumption); (case hsZZ => assumption); (case hblZZ => exact Nat.le_of_ble_eq_true rfl); (case hDZZ => assumption); (case hTZZ => assumption); (case hcZZ => assumption); (case hdZZ => ktr_room); (case huZZ => ktr_units)); intro nZ rZ tZ o'Z c'Z h'Z tk'Z hKnZ hFuZ hclZ hD'Z hbrZ F'Z N'Z; (try dsimp only)) | (with_reducible (k_here; (with_reducible show wpAny _ _ (call (Value.ref 154) _) _ _ _); k_dflt (refine' draw_ok ?BZZ ?FZZ ?XZZ ?NZZ ?TZZ ?hkZZ ?m1ZZ ?m2ZZ ?hWZZ ?UZZ ?hqZZ ?ivZZ ?hnZZ ?hvZZ ?hz0ZZ ?hz1ZZ ?hdZZ ?huZZ ?_; (case BZZ => k_asm); (case FZZ => k_asm); (case XZZ => k_asm); (case NZZ => k_asm); (case TZZ => k_asm); (case hkZZ => first | exact rfl | assumption); (case hWZZ => assumption); (case m1ZZ => k_mem); (case m2ZZ => k_mem); (case UZZ => intro o'Z; k_upd); (case hqZZ => assumption); (case ivZZ => assumption); (case hnZZ => assumption); (case hvZZ => assumption); (case hz0ZZ => omega); (case hz1ZZ => omega); (case hdZZ => ktr_room); (case huZZ => ktr_units)); intro r9Z t9Z o9Z h'Z tk'Z hr0Z hr1Z hW'Z F'Z N'Z; (try dsimp only))) | (k_here; (with_reducible show wpAny _ _ (call (Value.ref 154) _) _ _ _); k_dflt (refine' draw_ok ?BZZ ?FZZ ?XZZ ?NZZ ?TZZ ?hkZZ ?m1ZZ ?m2ZZ ?hWZZ ?UZZ ?hqZZ ?ivZZ ?hnZZ ?hvZZ ?hz0ZZ ?hz1ZZ ?hdZZ ?huZZ ?_; (case BZZ => k_asm); (case FZZ => k_asm); (case XZZ => k_asm); (case NZZ => k_asm); (case TZZ => k_asm); (case hkZZ => first | exact rfl | assumption); (case hWZZ => assumption); (case m1ZZ => k_mem); (case m2ZZ => k_mem); (case UZZ => intro o'Z; k_upd); (case hqZZ => assumption); (case ivZZ => assumption); (case hnZZ => assumption); (case hvZZ => assumption); (case hz0ZZ => omega); (case hz1ZZ => omega); (case hdZZ => ktr_room); (case huZZ => ktr_units)); intro r9Z t9Z o9Z h'Z tk'Z hr0Z hr1Z hW'Z F'Z N'Z; (try dsimp only)) | (with_reducible (k_here; (with_reducible show wpAny _ _ (eval (Expr.Dict [] [] _) _) _ _ _); k_dflt (refine' newDict_K ?k1ZZ ?k2ZZ ?k3ZZ ?_; (case k1ZZ => k_asm); (case k2ZZ => k_asm); (case k3ZZ => exact TopRead.nolimit (by k_asm)); k_whole); intro d'Z h'Z o'Z F'Z N'Z l1Z lo'Z hs'Z fs'Z hi'Z fi'Z; (try k_lt l1Z); (try k_sweep))) | (k_here; (with_reducible show wpAny _ _ (eval (Expr.Dict [] [] _) _) _ _ _); k_dflt (refine' newDict_K ?k1ZZ ?k2ZZ ?k3ZZ ?_; (case k1ZZ => k_asm); (case k2ZZ => k_asm); (case k3ZZ => exact TopRead.nolimit (by k_asm)); k_whole); intro d'Z h'Z o'Z F'Z N'Z l1Z lo'Z hs'Z fs'Z hi'Z fi'Z; (try k_lt l1Z); (try k_sweep)) | (with_reducible (k_here; (with_reducible show wpAny _ _ (execs (Stmt.For _ _ (_ :: _ :: _) _ _ :: _) _) _ _ _); refine halt ?_)) | (with_reducible (k_here; (with_reducible show wpAny _ _ (call (Value.type "range") _) _ _ _); k_dflt (refine' range_at ?k1ZZ ?k2ZZ ?_; (case k1ZZ => k_asm); (case k2ZZ => k_asm)); intro r9Z h'Z tk9Z t9Z u9Z v9Z hr9Z F'Z N'Z)) | (k_here; (with_reducible show wpAny _ _ (call (Value.type "range") _) _ _ _); k_dflt (refine' range_at ?k1ZZ ?k2ZZ ?_; (case k1ZZ => k_asm); (case k2ZZ => k_asm)); intro r9Z h'Z tk9Z t9Z u9Z v9Z hr9Z F'Z N'Z) | (with_reducible (k_here; (with_reducible show wpAny _ _ (pyIter (Value.ref _)) _ _ _); refine halt ?_)) | (k_unfold; (try dsimp only)) | (k_end; kc_close) | walk1 | (dsimp only; walk1) | (leave1; (try dsimp only)) | fail "no step")
    refine (?_ : wpAny _ _ _ _ _ _)
    rename Fr h₀ L _ _ => F9
    rename News h₀ L _ _ => N9
    obtain ⟨od, al, hl, rl, rfl, rfl, rfl, rfl⟩ := news_four N9
    rename (_ == sysModules) = false => hso
    rename Obj.IsDictOf (PySem.intKind _ _) _ _ => hio
    rename Obj.data _ = Data.cell (some _) => hco
    refine seg4 (s := { s with heap := _, toks := _ }) (tb := tb) (oc := _) (oon := _) B F9 X XB T TB (wl := wl) (q := q) (od := od) (hl := hl) (al := al) (rl := rl) (cb_drop N9 (by kst_allIn)) hxd ⟨a0, a1, a2, a3, a4, a5, by omega, by omega, by omega, by omega⟩ hW1 iv hn hv hsk hDi hTi (by omega) hb0 hb1 hso ⟨[], hio, .nil⟩ ?h1 ?h2 ?h3 ?h4 ?h5 ?h6 hco hQ hd hu
    case h1 => with_unfolding_all rfl
    case h2 => with_unfolding_all rfl
    case h3 => with_unfolding_all rfl
    case h4 => with_unfolding_all rfl
    case h5 => with_unfolding_all rfl
    case h6 => with_unfolding_all rfl
end
section
open PySem.Calls
theorem bits_lim {r : Int} (h0 : 0 ≤ r) (h1 : r < 6) : 3 ≤ ([3, 4, 5, 8, 10, 11] : List Int).getD r.toNat 0 ∧ ([3, 4, 5, 8, 10, 11] : List Int).getD r.toNat 0 ≤ 11 := by
  have h : r = 0 ∨ r = 1 ∨ r = 2 ∨ r = 3 ∨ r = 4 ∨ r = 5 := by omega
  rcases h with rfl | rfl | rfl | rfl | rfl | rfl <;> decide
theorem news_six {h₀ h : Heap} {L a b c d f : Addr} {e1 e2 : Addr × Obj} {o1 o2 o3 o4 o5 : Obj} {l : List (Addr × Obj)} (N : News h₀ L h (e1 :: (a, o1) :: (b, o2) :: (c, o3) :: e2 :: (d, o4) :: (f, o5) :: l)) : ∃ a' b' c' d' f' : Addr, a' = a ∧ b' = b ∧ c' = c ∧ d' = d ∧ f' = f := ⟨_, _, _, _, _, rfl, rfl, rfl, rfl, rfl⟩
theorem well_new (q : Addr) (ns : List Int) (t u : Tok) : IsWell q ns (wellObj q 0 1 t u 0) := ⟨0, 0, 1, t, u, rfl, by decide, by omega, by decide, by decide⟩
theorem ne_lt {a b : Addr} (h : a < b) : a ≠ b := Nat.ne_of_lt h
theorem lt_head {a b : Addr} {o : Obj} {l : List (Addr × Obj)} (h : ∀ p ∈ (a, o) :: l, p.1 < b) : @LT.lt Nat _ a b := h _ (.head _)
theorem ne_head {a b : Addr} {o : Obj} {l : List (Addr × Obj)} (h : ∀ p ∈ (a, o) :: l, p.1 ≠ b) : a ≠ b := h _ (.head _)
set_option maxRecDepth 100000 in
set_option maxHeartbeats 1000000 in
theorem seg0 {w : World} {mean : ExcName → Option Value} {mg mb : Str → Option Value} {dp un : Nat} {gd : Option (List Code)} {fa : Addr} {cd : Value} {A₀ : Around} {base h₀ : Heap} {L : Addr} {m : Str → Option Value} {s : Shared} {Q : Flow → Shared → Prop} {sl : Addr} {vs0 : List Value} {ns0 : List Int} {oc : Obj} {v₀ : Option Value}
    (B : Below A₀ base [] h₀) (F : Fr h₀ L s.heap m) (X : (Mine.hd.heap_39 w.params).In h₀) (XB : (Mine.hd.heap_39 w.params).In base) (T : Top hd.view_39 (looseW hd.view_39 [Str.ofString "WORD", Str.ofString "LEAST_ADDRESS"]) mean mg mb h₀) (TB : Top hd.view_39 (looseW hd.view_39 [Str.ofString "WORD", Str.ofString "LEAST_ADDRESS"]) mean mg mb base) (N : News h₀ L s.heap [(L + 1, oc)]) (hl : base.IsList sl vs0.toArray) (hi : IntsAre vs0 ns0) (hn : ns0.length ≤ 63)
    (v0 : m (Str.ofString "script") = some (.ref sl)) (hoc : oc.data = .cell v₀)
    (hQ : ∀ h' tk' m', Fr h₀ L h' m' → Q (.ret (.bool true)) { s with heap := h', toks := tk' }) (hd : dp + 60 < recursionLimit) (hu : un + 600 < cLine) : wpAny (model PySem.Challenge.rw_pq0387_01.row.prog w) (ktrTop dp un gd (Str.ofString "law") (lawScope w.params) L fa cd [(Str.ofString "on", L + 1)] []) (execs (lawTail w.params 0) (envX (Str.ofString "law") (lawScope w.params) L fa cd [(Str.ofString "on", L + 1)])) Q (fun _ _ => False) s := by
  w_top off
  replace F := frSees F (.cons v0 (.nil))
  simp only [ovr] at F
  clear v0
  with_unfolding_all (show wpAny _ (ktrTop _ _ _ _ ⟨_, _, _, _, _⟩ _ _ _ _ _) (execs (_ :: _) (envX _ ⟨_, _, _, _, _⟩ _ _ _ _)) _ _ _)
  revert X; k_fill; intro X
  repeat' (first | (with_reducible (k_here; (with_reducible show wpAny _ _ (call (Value.ref 154) _) _ _ _); k_dflt (refine' draw_ok ?BZZ ?FZZ ?XZZ ?NZZ ?TZZ ?hkZZ ?m1ZZ ?m2ZZ ?hWZZ ?UZZ ?hqZZ ?ivZZ ?hnZZ ?hvZZ ?hz0ZZ ?hz1ZZ ?hdZZ ?huZZ ?_; (case BZZ => k_asm); (case FZZ => k_asm); (case XZZ => k_asm); (case NZZ => k_asm); (case TZZ => k_asm); (case hkZZ => first | exact rfl | assumption); (case hWZZ => assumption); (case m1ZZ => k_mem); (case m2ZZ => k_mem); (case UZZ => intro o'Z; k_upd); (case hqZZ => assumption); (case ivZZ => assumption); (case hnZZ => assumption); (case hvZZ => assumption); (case hz0ZZ => omega); (case hz1ZZ => omega); (case hdZZ => ktr_room); (case huZZ => ktr_units)); intro r9Z t9Z o9Z h'Z tk'Z hr0Z hr1Z hW'Z F'Z N'Z; (try dsimp only))) | (k_here; (with_reducible show wpAny _ _ (call (Value.ref 154) _) _ _ _); k_dflt (refine' draw_ok ?BZZ ?FZZ ?XZZ ?NZZ ?TZZ ?hkZZ ?m1ZZ ?m2ZZ ?hWZZ ?UZZ ?hqZZ ?ivZZ ?hnZZ ?hvZZ ?hz0ZZ ?hz1ZZ ?hdZZ ?huZZ ?_; (case BZZ => k_asm); (case FZZ => k_asm); (case XZZ => k_asm); (case NZZ => k_asm); (case TZZ => k_asm); (case hkZZ => first | exact rfl | assumption); (case hWZZ => assumption); (case m1ZZ => k_mem); (case m2ZZ => k_mem); (case UZZ => intro o'Z; k_upd); (case hqZZ => assumption); (case ivZZ => assumption); (case hnZZ => assumption); (case hvZZ => assumption); (case hz0ZZ => omega); (case hz1ZZ => omega); (case hdZZ => ktr_room); (case huZZ => ktr_units)); intro r9Z t9Z o9Z h'Z tk'Z hr0Z hr1Z hW'Z F'Z N'Z; (try dsimp only)) | (with_reducible (k_here; (with_reducible show wpAny _ _ (call (Value.ref 147) _) _ _ _); k_dflt (refine' well_ok ?BZZ ?FZZ ?XZZ ?NZZ ?TZZ ?hkZZ ?hlZZ ?hiZZ ?hnZZ ?hdZZ ?huZZ ?_; (case BZZ => k_asm); (case FZZ => k_asm); (case XZZ => k_asm); (case NZZ => k_asm); (case TZZ => k_asm); (case hkZZ => first | exact rfl | assumption); (case hlZZ => assumption); (case hiZZ => assumption); (case hnZZ => assumption); (case hdZZ => ktr_room); (case huZZ => ktr_units)); intro q9Z wl9Z vs9Z ns9Z t9Z u9Z nq9Z h'Z tk'Z hI9Z hn9Z hv9Z F'Z N'Z q9wZ q9nZ q9lZ; (have hW9Z := well_new q9Z ns9Z t9Z u9Z); (have hq9Z := ne_lt q9wZ); (have q9l2Z := lt_head q9lZ); (have q9n2Z := ne_head q9nZ); (clear q9nZ q9lZ); (try dsimp only))) | (k_here; (with_reducible show wpAny _ _ (call (Value.ref 147) _) _ _ _); k_dflt (refine' well_ok ?BZZ ?FZZ ?XZZ ?NZZ ?TZZ ?hkZZ ?hlZZ ?hiZZ ?hnZZ ?hdZZ ?huZZ ?_; (case BZZ => k_asm); (case FZZ => k_asm); (case XZZ => k_asm); (case NZZ => k_asm); (case TZZ => k_asm); (case hkZZ => first | exact rfl | assumption); (case hlZZ => assumption); (case hiZZ => assumption); (case hnZZ => assumption); (case hdZZ => ktr_room); (case huZZ => ktr_units)); intro q9Z wl9Z vs9Z ns9Z t9Z u9Z nq9Z h'Z tk'Z hI9Z hn9Z hv9Z F'Z N'Z q9wZ q9nZ q9lZ; (have hW9Z := well_new q9Z ns9Z t9Z u9Z); (have hq9Z := ne_lt q9wZ); (have q9l2Z := lt_head q9lZ); (have q9n2Z := ne_head q9nZ); (clear q9nZ q9lZ); (try dsimp only)) | (with_reducible (k_here; (with_reducible show wpAny _ _ (execs (Stmt.For _ _ _ _ _ :: _) _) _ _ _); refine halt ?_)) | (k_unfold; (try dsimp only)) | (k_end; kc_close) | walk1 | (dsimp only; walk1) | (leave1; (try dsimp only)) | fail "no step")
  refine (?_ : wpAny _ _ _ _ _ _)
  rename Fr h₀ L _ _ => F9
  rename News h₀ L _ _ => N9
  obtain ⟨kd, x, dx, wl, q, rfl, rfl, rfl, rfl, rfl⟩ := news_six N9
  rename (_ == sysModules) = false => hsk
  rename Obj.IsDictOf (PySem.intKind _ _) _ _ => hio
  rename IsWell q _ _ => hW1
  rename 0 ≤ _ => hz0
  rename _ < 6 => hz1
  obtain ⟨b0, b1⟩ := bits_lim hz0 hz1
  rename dx < x => y0
  have hxd : x ≠ dx := Nat.ne_of_gt y0
  rename IntsAre _ _ => iv
  rename ∀ v ∈ _, 0 ≤ v ∧ v < 2147483647 => hv
  rename List.length _ ≤ 60 => hn60
  rename L + 1 ≠ q => hLq
  refine seg2 (s := { s with heap := _, toks := _ }) (bits := _) (tb := ?tb) (oc := oc) (x := x) (dx := dx) (kd := kd) (c := []) B F9 X XB T TB (cb_drop N9 (by kst_allIn)) hxd ⟨by omega, by omega, by omega, by omega, by omega, by omega⟩ hLq hW1 iv hn60 hv hsk ⟨[], hio, .nil⟩ (fun _ _ h => nomatch h) (Nat.zero_le _) b0 b1 hoc ?h1 ?h2 ?h3 hQ hd hu
  case h1 => with_unfolding_all rfl
  case h2 => with_unfolding_all rfl
  case h3 => with_unfolding_all rfl
end
end Mine
section
open PySem.Calls
set_option maxRecDepth 100000 in
set_option maxHeartbeats 8000000 in
theorem PySem.Challenge.cw_pq0387_01_holds : PySem.Challenge.rw_pq0387_01.Holds := by
  refine Mine.hd (by rfl) (by rfl) (by rfl) ?_
  w_top off
  k_go0
  all_goals try k_fold
  rename IntsAre _ _ => hI
  rename Below _ _ _ _ => K0
  rename Fr _ _ _ _ => F
  rename News _ _ _ _ => N0
  rename Mine.hd.heap_39 _ |>.In _ => KX
  rename Top _ _ _ _ _ _ => T
  rename Heap.IsList _ _ _ => hL
  rename ¬ _ < _ => hcond
  rename Obj.data _ = Data.cell _ => hcell
  refine wpAny_mono (Q := qk) (E := fun _ _ => False) ?_ (fun _ _ h => h) (fun _ _ h => False.elim h)
  refine Mine.seg0 (sl := _) (m := _) K0 F KX KX T T N0 hL hI ?h63 ?v0 hcell ?hQ ?hd ?hu
  case h63 => omega
  case v0 => with_unfolding_all rfl
  case hd => decide
  case hu => decide
  case hQ =>
    intro h' tk' m' F9
    k_steps
end

