import PyProof.Rows.All
import Wide.All
import OpenK.AllK
import Wide.FinOn
import Lean
import PySem.Challenge.RW_uf060009_11
set_option compiler.extract_closed false
set_option genSizeOfSpec false
set_option genInjectivity false
set_option bootstrap.genMatcherCode false
set_option genSizeOf false
set_option tactic.hygienic false
namespace Mine
open PySem.Str renaming ofString → aa
open PySem.Value renaming none → ae, ref → aZ, type → bz, str → bW
open PySem renaming wpAny_bind → ag, wpAny_mono → ak, Params → ar, Shared → az, wpAny_pure → aB, sizeLine → aH, Program → aV, mainGlobals → bk, starEach → bv, compareOp → bL, backTo → db, wpAny_holding → dq, ExceptHandler → dr, foldedSetIterable → dF, Around → dM, intItems → dZ, subscripted → eA, rawInt → eG, wpAny_tryCatch → eM, keywordEach → eN, wpAny_truthy_bool → eY, wpAny_updateSeq → fg, clipAt → fh, bootBuiltins → fK, argBest → fL, wpAny_seqItems → fT, wpAny_field → gj, plainId_quiet → gz, OsState → gY, wpAny_setField → g6, swapsWith → g8, wpAny_letGo → ie, codeAny_builtin → iI, callEnvC → iK, NameKind → iP, wpAny_newObj_type → iX, backToKw → ju, treeTable → jD, callWith → kK, binaryOp → kM, getItem → lC, wpAny_callSpecial?_slot → lH, operate → mF, wpAny_call_entry → ou, pyNext → oA, wpAny_standAt → oF, wpAny_attempt → oG, relabel → oK, behindInMarks → oO, wpAny_of_eq → oV, codeAny → rn, DictEntry → rS, wpAny_rule → rW, wpAny_assign_Name → vE, wpAny_newList → xf, PyData → yz, updateSeq → yO, Arguments → BC, notedBy → Cj, holding → Cz, wpAny_execs_nil → Du
open PyProof.Rows renaming SortSt → ah, pendingOf → br, wpS_bind → bF, seqObj → bX, subscriptTail → cO, failedOf → dD, wpS_pure → ec, get?_update_seq → jy, listUpdate_at → nc, setPending → nQ, pairsOf_toList → pQ, SortKind → pR, reverseSlice' → sg, binarySort' → t8, pairsOf → yF
open List renaming append_assoc → ai, length_map → aj, length_append → au, mem_append → ay, pairwise_append → aA, mem_singleton → aC, mem_of_getElem? → aE, getElem?_eq_some_iff → aF, take_append_drop → aG, mem_of_mem_take → aJ, mem_of_mem_drop → aK, map_cons → aM, getElem?_eq_getElem → aO, mem_cons → aQ, getElem?_map → aR, length_take → bh, length_cons → bj, map_map → bn, length_drop → bp, map_append → bu, mem_map → bx, perm_append_comm → bA, length_singleton → bB, length → bM, mem_filterMap → bP, filter_eq_self → bS, lookup_cons → b8, filter_cons → cj, size_toArray → cm, pairwise_map → cq, append_nil → cA, take_of_length_le → cB, length_range → cC, mem_append_right → cJ, drop_eq_getElem_cons → cP, pairwise_cons → cR, take_succ_eq_append_getElem → cZ, take_sublist → c5, drop_sublist → c6, mem_append_left → df, getElem?_append_right → dg, pairwise_iff_getElem → dp, filter_append → dH, pairwise_singleton → dK, singleton_append → ej, getElem?_eq_none → ek, take_length → fm, length_filter_le → fF, getElem?_append_left → fO, length_nil → fR, sum_cons → f0, length_pos_iff → gf, not_mem_nil → gv, eq_nil_of_length_eq_zero → gF, mem_filter → hZ, nodup_append → ij, take_zero → iQ, range → iR, drop_zero → iS, map_congr_left → jc, flatten_append → jd, nodup_cons → jA, zip_cons_cons → jV, getElem?_drop → jW, map_id → jZ, reverse_perm → kR, flatten_singleton → kT, filter_eq_nil_iff → kU, ext_getElem? → kW, drop_eq_nil_of_le → kX, drop_drop → kY, mem_iff_getElem? → lQ, eq_nil_iff_forall_not_mem → mh, mem_iff_getElem → m6, length_reverse → oi, getElem_of_mem → oj, getElem?_range → om, getElem_take → qF, flatten_cons → qG, getElem?_take_of_lt → rJ, mem_reverse → tN, extract → vx, find?_cons → w5, reverse_reverse → Br, nodup_nil → Bs, mem_cons_of_mem → Bt, any_cons → DL, find?_eq_none → Fg
open Nat renaming le_of_ble_eq_true → am, le_trans → aI, le_refl → aU, lt_irrefl → ba, lt_of_lt_of_le → bO, min_eq_left → bR, le_of_lt → b7, lt_of_le_of_ne → cb, le_antisymm → ce, le_add_right → ci, ne_of_lt → cw, lt_succ_of_lt → cM, succ_le_succ → cW, le_succ_of_le → cX, add_sub_of_le → cY, lt_of_not_le → dj, add_le_add_left → dv, zero_le → dw, lt_or_ge → dE, add_le_add_right → dJ, add_assoc → dY, ne_of_gt → d7, lt_of_succ_lt → d8, sub_le → eu, lt_succ_self → ew, lt_of_le_of_lt → fB, le_succ → fV, le_sub_one_of_lt → fW, lt_succ_iff_lt_or_eq → fY, pos_of_ne_zero → gQ, le_of_eq → gR, eq_zero_of_not_pos → gS, add_right_comm → gT, sub_pos_of_lt → ig, le_of_lt_succ → ii, le_add_left → jz, add_comm → kP, add_le_of_le_sub' → lO, le_of_not_lt → tH, exists_eq_add_of_le → tI, zero_add → vq, succ_pos → vt, sub_self → vw, not_lt_zero → w4, le_of_sub_eq_zero → yA, succ_eq_add_one → Dm, not_lt → Fb, eq_or_lt_of_le → Fc, add_sub_cancel → Fd
open PySem.Heap renaming get?_push_of_some → aq, get?_update_other → aP, get?_push_size → aS, lt_size → bq, get?_update_self → cg, get?_push_ne → fc, size_update → fQ, get?_none_of_le → jx, get?_update_ne → qH
open Array renaming length_toList → aD, getElem?_toList → bG, getElem?_eq_some_iff → bJ, getElem?_setIfInBounds_ne → ef, toList_append → gg, toList_extract → iT, toArray_toList → m7, getElem_toList → m8
open PySem.Data renaming fields → aL, seq → c7, dict → eo, cls → By
open PySem.Obj renaming mapSeq → a9, mapFields → gC, data_mapFields → lF, isFreed_of_fields → Fa
open Ne renaming symm → bl
open PySem.W.Fast renaming te14364793385576792824 → bC, te10110043849684766642 → cL
open Break.runK renaming match_1 → bD
open Int renaming dvd_of_emod_eq_zero → bE, le_refl → ee, emod_eq_zero_of_dvd → eH, pow_succ → eW, emod_lt_of_pos → fE, toNat_natCast → fX, mul_ediv_cancel_left → f5, le_of_lt → gU, add_emod_right → gV, emod_nonneg → jB, emod_add_mul_ediv → lR, dvd_trans → mi, ediv_mul_cancel → oq, eq_ofNat_of_zero_le → tQ, ne_of_lt → vy, le_ediv_iff_mul_le → vz, pow_pos → Bu
open List.Perm renaming append_left → bK, append_right → eV, refl → pP
open Bool renaming false_eq_true → bQ, eq_false_iff → c8, false_ne_true → jX
open Option renaming map_eq_some_iff → bT, isSome_iff_exists → bU
open PySem.PyData renaming canLayAll0 → bV, eqvAll → da, depthAll → fj, canLay0 → hW, eqv → jw, depth → mZ, int → oB, list → w0
open PySem.F renaming plain_min_loop → d5, plain_max_loop → d6, entry_min_loop → vo, entry_max_loop → vp
open PySem.Builtin.Range renaming rangeSize → d9
open Classical renaming byContradiction → eh, epsilon_spec → eX, epsilon → ik
open PySem.W renaming hideAll → et, tabObj → i8, emptyDict → j9, behindTheImports → j', boot_o_10 → pH, BT → pM, boot_o_2 → p4, of_hideAll → ut, boot_o_9 → u8, boot_o_8 → ve, boot_o_7 → vf, boot_o_6 → vg, boot_o_5 → vh, boot_o_4 → vi, boot_o_1 → vj, boot_o_0 → vk, boot_heap → Dd, hideAll_none → Ex
open ForInStep renaming yield → fS
open PySem.Around renaming under_plainId → gy
open PySem.Heap.SameBut renaming update → gZ
open PySem.Builtin.List renaming listExtendWith → i5
open PySem.Builtin.Builtins renaming bindParams → i6
open PySem.NameKind renaming free → kQ, cell → yB
open PySem.Env renaming kindOf → tR
open PySem.Flow renaming next → Bx
open PySem.SeqAt renaming compareNe_reads → E8, compareEq_reads → E9
section
open PySem PySem.W PyProof.Rows
set_option Elab.async false
set_option maxRecDepth 100000
set_option maxHeartbeats 8000000
set_option linter.unusedVariables false
noncomputable def js:Option Stmt→List Stmt
 |some (.ClassDef _ _ _ b ..)=>b
 |_=>[]
noncomputable def f' {name bd:Str} {ps:BC} {b:List Stmt} {ds:List Expr} {r:Option Expr} {tp:List TypeParam} {sc:Scope} {ts:Option Scope} {pos:Pos} {o:Option Stmt} (_:o=some (.FunctionDef name ps b ds r tp sc ts bd pos))
  (cls:Value) (qual:Str) (g:Addr) (dV kV doc pm:Value) (an:Option Addr) (cdv ct:Value) (bi:Addr):Obj:=
 { cls,data:=.func { name,qualname:=qual,params:=ps,body:=.stmts b,scope:=sc,globals:=g,closure:=[],defaults:=dV,kwdefaults:=kV,doc,pyModule:=pm,annotations:=an,code:=cdv,closureTuple:=ct,builtins:=bi } }
noncomputable def kE (P:ar) (x:String) (t:Nat) (v:Value):rS:={ hash:=yz.keyHash P (aa x),key:=.str (aa x) t,val:=v }
noncomputable def fnB:Option Stmt→List Stmt
 |some (.FunctionDef _ _ b ..)=>b
 |_=>[]
noncomputable def fnS:Option Stmt→Scope
 |some (.FunctionDef _ _ _ _ _ _ sc ..)=>sc
 |_=>default
noncomputable def whB:Option Stmt→List Stmt
 |some (.While _ b ..)=>b
 |_=>[]
noncomputable def forB:Option Stmt→List Stmt
 |some (.For _ _ b ..)=>b
 |_=>[]
noncomputable def ifB:Option Stmt→List Stmt
 |some (.If _ b ..)=>b
 |_=>[]
noncomputable def ifO:Option Stmt→List Stmt
 |some (.If _ _ b _)=>b
 |_=>[]
noncomputable abbrev eg:aV:=PySem.Challenge.pw_uf060009_11
noncomputable def hq:aV:=view eg [1,2,3,4,5,7,8,9,10,12,14,16,17,18,19,20,21,22,23,24,25,26,27,28,29,30,31,32]
noncomputable def hE:Env:={ scope:=eg.main.scope,locals:=mainNs,globals:=mainNs,cells:=[],code:=(aZ 13),frame:=some 14 }
noncomputable def aY (P:ar):Obj:={ cls:=.type "tuple",data:=c7 #[] }
noncomputable def cK (P:ar):Obj:={ cls:=.none,data:=aL #[] }
noncomputable def CO (P:ar):Obj:={ cls:=.type "code",data:=aL #[.str (aa "<module>") 182,.str (aa "<module>") 183,.str (aa "/claim/cut.py") 184,.int 1 0,.int 0 0,.int 0 0,.int 0 0,.int 0 0,.ref 11,.bool false,.int 181 0,.ref 12,.none,.none,.none,.none,.int 185 0,.int 1 0,.str (aa "/claim/cut.py") 186] }
noncomputable def CN (P:ar):Obj:={ cls:=.type "frame",slots:=#[some (.ref 13),some (.ref 3),some (.ref 3),none,some (.str (aa "__main__") 164),none,some (.ref 0)] }
noncomputable def hO4 (P:ar):Obj:={ cls:=.type "dict",data:=eo #[kE P "__name__" 165 (.str (aa "buddyyard.errors") 187),kE P "__doc__" 166 (.none),kE P "__package__" 167 (.none),kE P "__loader__" 168 (.builtin "__main__.__loader__#opaque"),kE P "__spec__" 169 (.none),kE P "__annotations__" 170 (.ref 6),kE P "__builtins__" 171 (.ref 4),kE P "__file__" 173 (.str (aa "/claim/cut.py") 172),kE P "__cached__" 174 (.none),kE P "YardError" 206 (.ref 24),kE P "NoYard" 222 (.ref 37)] 11 }
noncomputable def hO5 (P:ar):Obj:={ cls:=.none,data:=aL #[.int 2 0,.int 0 0,.ref 20,.int 4 0,.int 0 0,.ref 33] }
noncomputable def Dz (P:ar):Obj:={ cls:=.type "tuple",data:=c7 #[.type "ValueError"] }
noncomputable def kz (P:ar):Obj:={ cls:=.type "builtin_function_or_method",data:=aL #[.builtin "type.__prepare__",.type "type"] }
noncomputable def EA (P:ar):Obj:={ cls:=.type "dict",data:=eo #[kE P "__module__" 196 (.str (aa "buddyyard.errors") 187),kE P "__qualname__" 198 (.str (aa "YardError") 197),kE P "__firstlineno__" 200 (.int 2 199),kE P "__static_attributes__" 201 (.ref 22)] 4 }
noncomputable def Ez (P:ar):Obj:={ cls:=.type "code",data:=aL #[.str (aa "YardError") 191,.str (aa "YardError") 192,.str (aa "/claim/cut.py") 193,.int 2 0,.int 0 0,.int 0 0,.int 0 0,.int 0 0,.ref 18,.bool false,.int 181 0,.ref 19,.none,.none,.none,.none,.int 194 0,.int 2 0,.str (aa "/claim/cut.py") 195] }
noncomputable def uQ (P:ar):Obj:={ cls:=.type "frame",slots:=#[some (.ref 20),some (.ref 3),some (.ref 17),none,some (.str (aa "buddyyard.errors") 187),none,some (.ref 0)] }
noncomputable def sT (P:ar):Obj:={ cls:=.type "dict",data:=eo #[kE P "__module__" 196 (.str (aa "buddyyard.errors") 187),kE P "__firstlineno__" 200 (.int 2 199),kE P "__static_attributes__" 201 (.ref 22),kE P "__weakref__" 203 (.ref 25),kE P "__doc__" 204 (.none)] 3 }
noncomputable def hO12 (P:ar):Obj:={ cls:=.type "type",data:=By { name:=aa "YardError",bases:=[.type "ValueError"],mro:=[.ref 24,.type "ValueError",.type "Exception",.type "BaseException",.type "object"],ns:=23,qualname:=aa "YardError",subclasses:=[.ref 37] },slots:=#[some (.ref 15),none,some (.str (aa "YardError") 189),some (.str (aa "YardError") 197),some (.builtin "ValueError.__new__"),some (.bool true)] }
noncomputable def sM (P:ar):Obj:={ cls:=.type "getset_descriptor",data:=aL #[.str (aa "__weakref__") 202,.ref 24,.builtin "ExceptionGroup.__weakref__",.none] }
noncomputable def uP (P:ar):Obj:={ cls:=.type "super",data:=aL #[.ref 24,.ref 24,.ref 24] }
noncomputable def uO (P:ar):Obj:={ cls:=.type "builtin_function_or_method",data:=aL #[.builtin "object.__init_subclass__",.ref 24] }
noncomputable def gA (P:ar):Obj:={ cls:=.type "tuple",data:=c7 #[.ref 24] }
noncomputable def uN (P:ar):Obj:={ cls:=.type "dict",data:=eo #[kE P "__module__" 214 (.str (aa "buddyyard.errors") 187),kE P "__qualname__" 216 (.str (aa "NoYard") 215),kE P "__firstlineno__" 218 (.int 4 217),kE P "__static_attributes__" 219 (.ref 35)] 4 }
noncomputable def uM (P:ar):Obj:={ cls:=.type "code",data:=aL #[.str (aa "NoYard") 209,.str (aa "NoYard") 210,.str (aa "/claim/cut.py") 211,.int 4 0,.int 0 0,.int 0 0,.int 0 0,.int 0 0,.ref 31,.bool false,.int 181 0,.ref 32,.none,.none,.none,.none,.int 212 0,.int 4 0,.str (aa "/claim/cut.py") 213] }
noncomputable def uL (P:ar):Obj:={ cls:=.type "frame",slots:=#[some (.ref 33),some (.ref 3),some (.ref 30),none,some (.str (aa "buddyyard.errors") 187),none,some (.ref 0)] }
noncomputable def sL (P:ar):Obj:={ cls:=.type "dict",data:=eo #[kE P "__module__" 214 (.str (aa "buddyyard.errors") 187),kE P "__firstlineno__" 218 (.int 4 217),kE P "__static_attributes__" 219 (.ref 35),kE P "__doc__" 220 (.none)] 2 }
noncomputable def sK (P:ar):Obj:={ cls:=.type "type",data:=By { name:=aa "NoYard",bases:=[.ref 24],mro:=[.ref 37,.ref 24,.type "ValueError",.type "Exception",.type "BaseException",.type "object"],ns:=36,qualname:=aa "NoYard" },slots:=#[some (.ref 28),none,some (.str (aa "NoYard") 207),some (.str (aa "NoYard") 215),some (.builtin "ValueError.__new__"),some (.bool true)] }
noncomputable def uK (P:ar):Obj:={ cls:=.type "super",data:=aL #[.ref 37,.ref 37,.ref 37] }
noncomputable def uJ (P:ar):Obj:={ cls:=.type "builtin_function_or_method",data:=aL #[.builtin "object.__init_subclass__",.ref 37] }
noncomputable def hO24 (P:ar):Obj:={ cls:=.type "dict",data:=eo #[kE P "__name__" 165 (.str (aa "buddyyard.errors") 187),kE P "__doc__" 166 (.none),kE P "__package__" 167 (.none),kE P "__loader__" 168 (.builtin "__main__.__loader__#opaque"),kE P "__spec__" 169 (.none),kE P "__annotations__" 170 (.ref 6),kE P "__builtins__" 171 (.ref 4),kE P "__file__" 173 (.str (aa "/claim/cut.py") 172),kE P "__cached__" 174 (.none),kE P "YardError" 206 (.ref 24),kE P "NoYard" 222 (.ref 37),kE P "NoWish" 238 (.ref 49),kE P "NoRoom" 254 (.ref 61)] 13 }
noncomputable def hO25 (P:ar):Obj:={ cls:=.none,data:=aL #[.int 2 0,.int 0 0,.ref 20,.int 4 0,.int 0 0,.ref 33,.int 6 0,.int 0 0,.ref 45,.int 8 0,.int 0 0,.ref 57] }
noncomputable def hO26 (P:ar):Obj:={ cls:=.type "type",data:=By { name:=aa "YardError",bases:=[.type "ValueError"],mro:=[.ref 24,.type "ValueError",.type "Exception",.type "BaseException",.type "object"],ns:=23,qualname:=aa "YardError",subclasses:=[.ref 37,.ref 49,.ref 61] },slots:=#[some (.ref 15),none,some (.str (aa "YardError") 189),some (.str (aa "YardError") 197),some (.builtin "ValueError.__new__"),some (.bool true)] }
noncomputable def x6 (P:ar):Obj:={ cls:=.type "dict",data:=eo #[kE P "__module__" 230 (.str (aa "buddyyard.errors") 187),kE P "__qualname__" 232 (.str (aa "NoWish") 231),kE P "__firstlineno__" 234 (.int 6 233),kE P "__static_attributes__" 235 (.ref 47)] 4 }
noncomputable def xZ (P:ar):Obj:={ cls:=.type "code",data:=aL #[.str (aa "NoWish") 225,.str (aa "NoWish") 226,.str (aa "/claim/cut.py") 227,.int 6 0,.int 0 0,.int 0 0,.int 0 0,.int 0 0,.ref 43,.bool false,.int 181 0,.ref 44,.none,.none,.none,.none,.int 228 0,.int 6 0,.str (aa "/claim/cut.py") 229] }
noncomputable def xY (P:ar):Obj:={ cls:=.type "frame",slots:=#[some (.ref 45),some (.ref 3),some (.ref 42),none,some (.str (aa "buddyyard.errors") 187),none,some (.ref 0)] }
noncomputable def uI (P:ar):Obj:={ cls:=.type "dict",data:=eo #[kE P "__module__" 230 (.str (aa "buddyyard.errors") 187),kE P "__firstlineno__" 234 (.int 6 233),kE P "__static_attributes__" 235 (.ref 47),kE P "__doc__" 236 (.none)] 2 }
noncomputable def uH (P:ar):Obj:={ cls:=.type "type",data:=By { name:=aa "NoWish",bases:=[.ref 24],mro:=[.ref 49,.ref 24,.type "ValueError",.type "Exception",.type "BaseException",.type "object"],ns:=48,qualname:=aa "NoWish" },slots:=#[some (.ref 40),none,some (.str (aa "NoWish") 223),some (.str (aa "NoWish") 231),some (.builtin "ValueError.__new__"),some (.bool true)] }
noncomputable def xX (P:ar):Obj:={ cls:=.type "super",data:=aL #[.ref 49,.ref 49,.ref 49] }
noncomputable def xW (P:ar):Obj:={ cls:=.type "builtin_function_or_method",data:=aL #[.builtin "object.__init_subclass__",.ref 49] }
noncomputable def xV (P:ar):Obj:={ cls:=.type "dict",data:=eo #[kE P "__module__" 246 (.str (aa "buddyyard.errors") 187),kE P "__qualname__" 248 (.str (aa "NoRoom") 247),kE P "__firstlineno__" 250 (.int 8 249),kE P "__static_attributes__" 251 (.ref 59)] 4 }
noncomputable def xU (P:ar):Obj:={ cls:=.type "code",data:=aL #[.str (aa "NoRoom") 241,.str (aa "NoRoom") 242,.str (aa "/claim/cut.py") 243,.int 8 0,.int 0 0,.int 0 0,.int 0 0,.int 0 0,.ref 55,.bool false,.int 181 0,.ref 56,.none,.none,.none,.none,.int 244 0,.int 8 0,.str (aa "/claim/cut.py") 245] }
noncomputable def xT (P:ar):Obj:={ cls:=.type "frame",slots:=#[some (.ref 57),some (.ref 3),some (.ref 54),none,some (.str (aa "buddyyard.errors") 187),none,some (.ref 0)] }
noncomputable def uG (P:ar):Obj:={ cls:=.type "dict",data:=eo #[kE P "__module__" 246 (.str (aa "buddyyard.errors") 187),kE P "__firstlineno__" 250 (.int 8 249),kE P "__static_attributes__" 251 (.ref 59),kE P "__doc__" 252 (.none)] 2 }
noncomputable def uF (P:ar):Obj:={ cls:=.type "type",data:=By { name:=aa "NoRoom",bases:=[.ref 24],mro:=[.ref 61,.ref 24,.type "ValueError",.type "Exception",.type "BaseException",.type "object"],ns:=60,qualname:=aa "NoRoom" },slots:=#[some (.ref 52),none,some (.str (aa "NoRoom") 239),some (.str (aa "NoRoom") 247),some (.builtin "ValueError.__new__"),some (.bool true)] }
noncomputable def xS (P:ar):Obj:={ cls:=.type "super",data:=aL #[.ref 61,.ref 61,.ref 61] }
noncomputable def xR (P:ar):Obj:={ cls:=.type "builtin_function_or_method",data:=aL #[.builtin "object.__init_subclass__",.ref 61] }
noncomputable def hO41 (P:ar):Obj:={ cls:=.type "dict",data:=eo #[kE P "__name__" 165 (.str (aa "buddyyard.yard") 307),kE P "__doc__" 166 (.none),kE P "__package__" 167 (.none),kE P "__loader__" 168 (.builtin "__main__.__loader__#opaque"),kE P "__spec__" 169 (.none),kE P "__annotations__" 170 (.ref 6),kE P "__builtins__" 171 (.ref 4),kE P "__file__" 173 (.str (aa "/claim/cut.py") 172),kE P "__cached__" 174 (.none),kE P "YardError" 206 (.ref 24),kE P "NoYard" 222 (.ref 37),kE P "NoWish" 238 (.ref 49),kE P "NoRoom" 254 (.ref 61),kE P "NotOut" 270 (.ref 73),kE P "MOST" 274 (.int 1152921504606846976 273),kE P "is_size" 282 (.ref 82),kE P "size_for" 290 (.ref 89),kE P "twin_of" 298 (.ref 96),kE P "give_all" 306 (.ref 101)] 19 }
noncomputable def hO42 (P:ar):Obj:={ cls:=.none,data:=aL #[.int 2 0,.int 0 0,.ref 20,.int 4 0,.int 0 0,.ref 33,.int 6 0,.int 0 0,.ref 45,.int 8 0,.int 0 0,.ref 57,.int 10 0,.int 0 0,.ref 69,.int 14 0,.int 0 0,.ref 81,.int 21 0,.int 0 0,.ref 88,.int 28 0,.int 0 0,.ref 95,.int 33 0,.int 0 0,.ref 100] }
noncomputable def xQ (P:ar):Obj:={ cls:=.type "type",data:=By { name:=aa "YardError",bases:=[.type "ValueError"],mro:=[.ref 24,.type "ValueError",.type "Exception",.type "BaseException",.type "object"],ns:=23,qualname:=aa "YardError",subclasses:=[.ref 37,.ref 49,.ref 61,.ref 73] },slots:=#[some (.ref 15),none,some (.str (aa "YardError") 189),some (.str (aa "YardError") 197),some (.builtin "ValueError.__new__"),some (.bool true)] }
noncomputable def zT (P:ar):Obj:={ cls:=.type "dict",data:=eo #[kE P "__module__" 262 (.str (aa "buddyyard.errors") 187),kE P "__qualname__" 264 (.str (aa "NotOut") 263),kE P "__firstlineno__" 266 (.int 10 265),kE P "__static_attributes__" 267 (.ref 71)] 4 }
noncomputable def zS (P:ar):Obj:={ cls:=.type "code",data:=aL #[.str (aa "NotOut") 257,.str (aa "NotOut") 258,.str (aa "/claim/cut.py") 259,.int 10 0,.int 0 0,.int 0 0,.int 0 0,.int 0 0,.ref 67,.bool false,.int 181 0,.ref 68,.none,.none,.none,.none,.int 260 0,.int 10 0,.str (aa "/claim/cut.py") 261] }
noncomputable def zR (P:ar):Obj:={ cls:=.type "frame",slots:=#[some (.ref 69),some (.ref 3),some (.ref 66),none,some (.str (aa "buddyyard.errors") 187),none,some (.ref 0)] }
noncomputable def xP (P:ar):Obj:={ cls:=.type "dict",data:=eo #[kE P "__module__" 262 (.str (aa "buddyyard.errors") 187),kE P "__firstlineno__" 266 (.int 10 265),kE P "__static_attributes__" 267 (.ref 71),kE P "__doc__" 268 (.none)] 2 }
noncomputable def xO (P:ar):Obj:={ cls:=.type "type",data:=By { name:=aa "NotOut",bases:=[.ref 24],mro:=[.ref 73,.ref 24,.type "ValueError",.type "Exception",.type "BaseException",.type "object"],ns:=72,qualname:=aa "NotOut" },slots:=#[some (.ref 64),none,some (.str (aa "NotOut") 255),some (.str (aa "NotOut") 263),some (.builtin "ValueError.__new__"),some (.bool true)] }
noncomputable def zQ (P:ar):Obj:={ cls:=.type "super",data:=aL #[.ref 73,.ref 73,.ref 73] }
noncomputable def zP (P:ar):Obj:={ cls:=.type "builtin_function_or_method",data:=aL #[.builtin "object.__init_subclass__",.ref 73] }
noncomputable def xN (P:ar):Obj:={ cls:=.type "tuple",data:=c7 #[.str (aa "number") 278,.str (aa "size") 279] }
noncomputable def zO (P:ar):Obj:=f' (o:=eg.main.body[8]?) rfl (ae) (aa "is_size") 0 (ae) (ae) (ae) (ae) (none) (ae) (ae) 0
noncomputable def xM (P:ar):Obj:={ cls:=.type "code",data:=aL #[.str (aa "is_size") 275,.str (aa "is_size") 276,.str (aa "/claim/cut.py") 277,.int 14 0,.int 1 0,.int 0 0,.int 0 0,.int 3 0,.ref 76,.bool true,.int 181 0,.ref 77,.none,.ref 78,.ref 79,.ref 80,.int 280 0,.int 14 0,.str (aa "/claim/cut.py") 281] }
noncomputable def xL (P:ar):Obj:=f' (o:=eg.main.body[8]?) rfl (bz "function") (aa "is_size") 3 (ae) (ae) (ae) (bW (aa "buddyyard.sizes") 271) (none) (aZ 81) (ae) 0
noncomputable def xK (P:ar):Obj:={ cls:=.type "tuple",data:=c7 #[.str (aa "want") 286,.str (aa "size") 287] }
noncomputable def zN (P:ar):Obj:=f' (o:=eg.main.body[9]?) rfl (ae) (aa "size_for") 0 (ae) (ae) (ae) (ae) (none) (ae) (ae) 0
noncomputable def xJ (P:ar):Obj:={ cls:=.type "code",data:=aL #[.str (aa "size_for") 283,.str (aa "size_for") 284,.str (aa "/claim/cut.py") 285,.int 21 0,.int 1 0,.int 0 0,.int 0 0,.int 3 0,.ref 83,.bool true,.int 181 0,.ref 84,.none,.ref 85,.ref 86,.ref 87,.int 288 0,.int 21 0,.str (aa "/claim/cut.py") 289] }
noncomputable def xI (P:ar):Obj:=f' (o:=eg.main.body[9]?) rfl (bz "function") (aa "size_for") 3 (ae) (ae) (ae) (bW (aa "buddyyard.sizes") 271) (none) (aZ 88) (ae) 0
noncomputable def xH (P:ar):Obj:={ cls:=.type "tuple",data:=c7 #[.str (aa "at") 294,.str (aa "size") 295] }
noncomputable def zM (P:ar):Obj:=f' (o:=eg.main.body[10]?) rfl (ae) (aa "twin_of") 0 (ae) (ae) (ae) (ae) (none) (ae) (ae) 0
noncomputable def xG (P:ar):Obj:={ cls:=.type "code",data:=aL #[.str (aa "twin_of") 291,.str (aa "twin_of") 292,.str (aa "/claim/cut.py") 293,.int 28 0,.int 2 0,.int 0 0,.int 0 0,.int 3 0,.ref 90,.bool true,.int 181 0,.ref 91,.none,.ref 92,.ref 93,.ref 94,.int 296 0,.int 28 0,.str (aa "/claim/cut.py") 297] }
noncomputable def xF (P:ar):Obj:=f' (o:=eg.main.body[10]?) rfl (bz "function") (aa "twin_of") 3 (ae) (ae) (ae) (bW (aa "buddyyard.sizes") 271) (none) (aZ 95) (ae) 0
noncomputable def zL (P:ar):Obj:=f' (o:=eg.main.body[12]?) rfl (ae) (aa "give_all") 0 (ae) (ae) (ae) (ae) (none) (ae) (ae) 0
noncomputable def xE (P:ar):Obj:={ cls:=.type "code",data:=aL #[.str (aa "give_all") 301,.str (aa "give_all") 302,.str (aa "/claim/cut.py") 303,.int 33 0,.int 2 0,.int 0 0,.int 0 0,.int 3 0,.ref 97,.bool true,.int 181 0,.ref 98,.none,.none,.none,.ref 99,.int 304 0,.int 33 0,.str (aa "/claim/cut.py") 305] }
noncomputable def xD (P:ar):Obj:=f' (o:=eg.main.body[12]?) rfl (bz "function") (aa "give_all") 3 (ae) (ae) (ae) (bW (aa "buddyyard.many") 299) (none) (aZ 100) (ae) 0
noncomputable def hO66 (P:ar):Obj:={ cls:=.type "dict",data:=eo #[kE P "__name__" 165 (.str (aa "buddyyard.yard") 307),kE P "__doc__" 166 (.none),kE P "__package__" 167 (.none),kE P "__loader__" 168 (.builtin "__main__.__loader__#opaque"),kE P "__spec__" 169 (.none),kE P "__annotations__" 170 (.ref 6),kE P "__builtins__" 171 (.ref 4),kE P "__file__" 173 (.str (aa "/claim/cut.py") 172),kE P "__cached__" 174 (.none),kE P "YardError" 206 (.ref 24),kE P "NoYard" 222 (.ref 37),kE P "NoWish" 238 (.ref 49),kE P "NoRoom" 254 (.ref 61),kE P "NotOut" 270 (.ref 73),kE P "MOST" 274 (.int 1152921504606846976 273),kE P "is_size" 282 (.ref 82),kE P "size_for" 290 (.ref 89),kE P "twin_of" 298 (.ref 96),kE P "give_all" 306 (.ref 101),kE P "Yard" 424 (.ref 177)] 20 }
noncomputable def hO67 (P:ar):Obj:={ cls:=.none,data:=aL #[.int 2 0,.int 0 0,.ref 20,.int 4 0,.int 0 0,.ref 33,.int 6 0,.int 0 0,.ref 45,.int 8 0,.int 0 0,.ref 57,.int 10 0,.int 0 0,.ref 69,.int 14 0,.int 0 0,.ref 81,.int 21 0,.int 0 0,.ref 88,.int 28 0,.int 0 0,.ref 95,.int 33 0,.int 0 0,.ref 100,.int 51 0,.int 0 0,.ref 107] }
noncomputable def CM (P:ar):Obj:={ cls:=.type "dict",data:=eo #[kE P "__module__" 316 (.str (aa "buddyyard.yard") 307),kE P "__qualname__" 318 (.str (aa "Yard") 317),kE P "__firstlineno__" 320 (.int 51 319),kE P "__init__" 328 (.ref 115),kE P "fitting" 336 (.ref 122),kE P "halve" 346 (.ref 129),kE P "give" 358 (.ref 136),kE P "take_back" 369 (.ref 143),kE P "resize" 380 (.ref 150),kE P "grow" 392 (.ref 157),kE P "free" 398 (.ref 162),kE P "out" 404 (.ref 167),kE P "owner" 413 (.ref 174),kE P "__static_attributes__" 417 (.ref 175)] 14 }
noncomputable def CL (P:ar):Obj:={ cls:=.none,data:=aL #[.int 53 0,.int 4 0,.ref 114,.int 60 0,.int 4 0,.ref 121,.int 67 0,.int 4 0,.ref 128,.int 72 0,.int 4 0,.ref 135,.int 86 0,.int 4 0,.ref 142,.int 99 0,.int 4 0,.ref 149,.int 111 0,.int 4 0,.ref 156,.int 123 0,.int 4 0,.ref 161,.int 126 0,.int 4 0,.ref 166,.int 129 0,.int 4 0,.ref 173] }
noncomputable def CK (P:ar):Obj:={ cls:=.type "code",data:=aL #[.str (aa "Yard") 311,.str (aa "Yard") 312,.str (aa "/claim/cut.py") 313,.int 51 0,.int 0 0,.int 0 0,.int 0 0,.int 0 0,.ref 105,.bool false,.int 181 0,.ref 106,.none,.none,.none,.none,.int 314 0,.int 51 0,.str (aa "/claim/cut.py") 315] }
noncomputable def CJ (P:ar):Obj:={ cls:=.type "frame",slots:=#[some (.ref 107),some (.ref 3),some (.ref 104),none,some (.str (aa "buddyyard.yard") 307),none,some (.ref 0)] }
noncomputable def zK (P:ar):Obj:={ cls:=.type "tuple",data:=c7 #[.str (aa "self") 324,.str (aa "cells") 325] }
noncomputable def CI (P:ar):Obj:=f' (o:=(js eg.main.body[14]?)[0]?) rfl (ae) (aa "Yard.__init__") 0 (ae) (ae) (ae) (ae) (none) (ae) (ae) 0
noncomputable def zJ (P:ar):Obj:={ cls:=.type "code",data:=aL #[.str (aa "__init__") 321,.str (aa "Yard.__init__") 322,.str (aa "/claim/cut.py") 323,.int 53 0,.int 2 0,.int 0 0,.int 0 0,.int 3 0,.ref 109,.bool true,.int 181 0,.ref 110,.none,.ref 111,.ref 112,.ref 113,.int 326 0,.int 53 0,.str (aa "/claim/cut.py") 327] }
noncomputable def zI (P:ar):Obj:=f' (o:=(js eg.main.body[14]?)[0]?) rfl (bz "function") (aa "Yard.__init__") 3 (ae) (ae) (ae) (bW (aa "buddyyard.yard") 307) (none) (aZ 114) (ae) 0
noncomputable def zH (P:ar):Obj:={ cls:=.type "tuple",data:=c7 #[.str (aa "self") 332,.str (aa "want") 333] }
noncomputable def CH (P:ar):Obj:=f' (o:=(js eg.main.body[14]?)[1]?) rfl (ae) (aa "Yard.fitting") 0 (ae) (ae) (ae) (ae) (none) (ae) (ae) 0
noncomputable def zG (P:ar):Obj:={ cls:=.type "code",data:=aL #[.str (aa "fitting") 329,.str (aa "Yard.fitting") 330,.str (aa "/claim/cut.py") 331,.int 60 0,.int 2 0,.int 0 0,.int 0 0,.int 3 0,.ref 116,.bool true,.int 181 0,.ref 117,.none,.ref 118,.ref 119,.ref 120,.int 334 0,.int 60 0,.str (aa "/claim/cut.py") 335] }
noncomputable def zF (P:ar):Obj:=f' (o:=(js eg.main.body[14]?)[1]?) rfl (bz "function") (aa "Yard.fitting") 3 (ae) (ae) (ae) (bW (aa "buddyyard.yard") 307) (none) (aZ 121) (ae) 0
noncomputable def zE (P:ar):Obj:={ cls:=.type "tuple",data:=c7 #[.str (aa "self") 340,.str (aa "at") 341,.str (aa "size") 342,.str (aa "wanted") 343] }
noncomputable def CG (P:ar):Obj:=f' (o:=(js eg.main.body[14]?)[2]?) rfl (ae) (aa "Yard.halve") 0 (ae) (ae) (ae) (ae) (none) (ae) (ae) 0
noncomputable def zD (P:ar):Obj:={ cls:=.type "code",data:=aL #[.str (aa "halve") 337,.str (aa "Yard.halve") 338,.str (aa "/claim/cut.py") 339,.int 67 0,.int 4 0,.int 0 0,.int 0 0,.int 3 0,.ref 123,.bool true,.int 181 0,.ref 124,.none,.ref 125,.ref 126,.ref 127,.int 344 0,.int 67 0,.str (aa "/claim/cut.py") 345] }
noncomputable def zC (P:ar):Obj:=f' (o:=(js eg.main.body[14]?)[2]?) rfl (bz "function") (aa "Yard.halve") 3 (ae) (ae) (ae) (bW (aa "buddyyard.yard") 307) (none) (aZ 128) (ae) 0
noncomputable def zB (P:ar):Obj:={ cls:=.type "tuple",data:=c7 #[.str (aa "self") 350,.str (aa "want") 351,.str (aa "wanted") 352,.str (aa "found") 353,.str (aa "at") 354,.str (aa "size") 355] }
noncomputable def CF (P:ar):Obj:=f' (o:=(js eg.main.body[14]?)[3]?) rfl (ae) (aa "Yard.give") 0 (ae) (ae) (ae) (ae) (none) (ae) (ae) 0
noncomputable def zA (P:ar):Obj:={ cls:=.type "code",data:=aL #[.str (aa "give") 347,.str (aa "Yard.give") 348,.str (aa "/claim/cut.py") 349,.int 72 0,.int 2 0,.int 0 0,.int 0 0,.int 3 0,.ref 130,.bool true,.int 181 0,.ref 131,.none,.ref 132,.ref 133,.ref 134,.int 356 0,.int 72 0,.str (aa "/claim/cut.py") 357] }
noncomputable def zw (P:ar):Obj:=f' (o:=(js eg.main.body[14]?)[3]?) rfl (bz "function") (aa "Yard.give") 3 (ae) (ae) (ae) (bW (aa "buddyyard.yard") 307) (none) (aZ 135) (ae) 0
noncomputable def zv (P:ar):Obj:={ cls:=.type "tuple",data:=c7 #[.str (aa "self") 362,.str (aa "at") 363,.str (aa "had") 364,.str (aa "size") 365,.str (aa "twin") 366] }
noncomputable def CE (P:ar):Obj:=f' (o:=(js eg.main.body[14]?)[4]?) rfl (ae) (aa "Yard.take_back") 0 (ae) (ae) (ae) (ae) (none) (ae) (ae) 0
noncomputable def zu (P:ar):Obj:={ cls:=.type "code",data:=aL #[.str (aa "take_back") 359,.str (aa "Yard.take_back") 360,.str (aa "/claim/cut.py") 361,.int 86 0,.int 2 0,.int 0 0,.int 0 0,.int 3 0,.ref 137,.bool true,.int 181 0,.ref 138,.none,.ref 139,.ref 140,.ref 141,.int 367 0,.int 86 0,.str (aa "/claim/cut.py") 368] }
noncomputable def zt (P:ar):Obj:=f' (o:=(js eg.main.body[14]?)[4]?) rfl (bz "function") (aa "Yard.take_back") 3 (ae) (ae) (ae) (bW (aa "buddyyard.yard") 307) (none) (aZ 142) (ae) 0
noncomputable def zs (P:ar):Obj:={ cls:=.type "tuple",data:=c7 #[.str (aa "self") 373,.str (aa "at") 374,.str (aa "want") 375,.str (aa "wanted") 376,.str (aa "size") 377] }
noncomputable def CD (P:ar):Obj:=f' (o:=(js eg.main.body[14]?)[5]?) rfl (ae) (aa "Yard.resize") 0 (ae) (ae) (ae) (ae) (none) (ae) (ae) 0
noncomputable def zr (P:ar):Obj:={ cls:=.type "code",data:=aL #[.str (aa "resize") 370,.str (aa "Yard.resize") 371,.str (aa "/claim/cut.py") 372,.int 99 0,.int 3 0,.int 0 0,.int 0 0,.int 3 0,.ref 144,.bool true,.int 181 0,.ref 145,.none,.ref 146,.ref 147,.ref 148,.int 378 0,.int 99 0,.str (aa "/claim/cut.py") 379] }
noncomputable def zq (P:ar):Obj:=f' (o:=(js eg.main.body[14]?)[5]?) rfl (bz "function") (aa "Yard.resize") 3 (ae) (ae) (ae) (bW (aa "buddyyard.yard") 307) (none) (aZ 149) (ae) 0
noncomputable def zp (P:ar):Obj:={ cls:=.type "tuple",data:=c7 #[.str (aa "self") 384,.str (aa "at") 385,.str (aa "size") 386,.str (aa "wanted") 387,.str (aa "taken") 388,.str (aa "place") 389] }
noncomputable def CC (P:ar):Obj:=f' (o:=(js eg.main.body[14]?)[6]?) rfl (ae) (aa "Yard.grow") 0 (ae) (ae) (ae) (ae) (none) (ae) (ae) 0
noncomputable def zo (P:ar):Obj:={ cls:=.type "code",data:=aL #[.str (aa "grow") 381,.str (aa "Yard.grow") 382,.str (aa "/claim/cut.py") 383,.int 111 0,.int 4 0,.int 0 0,.int 0 0,.int 3 0,.ref 151,.bool true,.int 181 0,.ref 152,.none,.ref 153,.ref 154,.ref 155,.int 390 0,.int 111 0,.str (aa "/claim/cut.py") 391] }
noncomputable def zn (P:ar):Obj:=f' (o:=(js eg.main.body[14]?)[6]?) rfl (bz "function") (aa "Yard.grow") 3 (ae) (ae) (ae) (bW (aa "buddyyard.yard") 307) (none) (aZ 156) (ae) 0
noncomputable def wL (P:ar):Obj:=f' (o:=(js eg.main.body[14]?)[7]?) rfl (ae) (aa "Yard.free") 0 (ae) (ae) (ae) (ae) (none) (ae) (ae) 0
noncomputable def s0 (P:ar):Obj:={ cls:=.type "code",data:=aL #[.str (aa "free") 393,.str (aa "Yard.free") 394,.str (aa "/claim/cut.py") 395,.int 123 0,.int 1 0,.int 0 0,.int 0 0,.int 3 0,.ref 158,.bool true,.int 181 0,.ref 159,.none,.none,.none,.ref 160,.int 396 0,.int 123 0,.str (aa "/claim/cut.py") 397] }
noncomputable def sZ (P:ar):Obj:=f' (o:=(js eg.main.body[14]?)[7]?) rfl (bz "function") (aa "Yard.free") 3 (ae) (ae) (ae) (bW (aa "buddyyard.yard") 307) (none) (aZ 161) (ae) 0
noncomputable def wK (P:ar):Obj:=f' (o:=(js eg.main.body[14]?)[8]?) rfl (ae) (aa "Yard.out") 0 (ae) (ae) (ae) (ae) (none) (ae) (ae) 0
noncomputable def sY (P:ar):Obj:={ cls:=.type "code",data:=aL #[.str (aa "out") 399,.str (aa "Yard.out") 400,.str (aa "/claim/cut.py") 401,.int 126 0,.int 1 0,.int 0 0,.int 0 0,.int 3 0,.ref 163,.bool true,.int 181 0,.ref 164,.none,.none,.none,.ref 165,.int 402 0,.int 126 0,.str (aa "/claim/cut.py") 403] }
noncomputable def sX (P:ar):Obj:=f' (o:=(js eg.main.body[14]?)[8]?) rfl (bz "function") (aa "Yard.out") 3 (ae) (ae) (ae) (bW (aa "buddyyard.yard") 307) (none) (aZ 166) (ae) 0
noncomputable def sW (P:ar):Obj:={ cls:=.type "tuple",data:=c7 #[.str (aa "self") 408,.str (aa "cell") 409,.str (aa "at") 410] }
noncomputable def wJ (P:ar):Obj:=f' (o:=(js eg.main.body[14]?)[9]?) rfl (ae) (aa "Yard.owner") 0 (ae) (ae) (ae) (ae) (none) (ae) (ae) 0
noncomputable def sV (P:ar):Obj:={ cls:=.type "code",data:=aL #[.str (aa "owner") 405,.str (aa "Yard.owner") 406,.str (aa "/claim/cut.py") 407,.int 129 0,.int 2 0,.int 0 0,.int 0 0,.int 3 0,.ref 168,.bool true,.int 181 0,.ref 169,.none,.ref 170,.ref 171,.ref 172,.int 411 0,.int 129 0,.str (aa "/claim/cut.py") 412] }
noncomputable def sU (P:ar):Obj:=f' (o:=(js eg.main.body[14]?)[9]?) rfl (bz "function") (aa "Yard.owner") 3 (ae) (ae) (ae) (bW (aa "buddyyard.yard") 307) (none) (aZ 173) (ae) 0
noncomputable def sR (P:ar):Obj:={ cls:=.type "tuple",data:=c7 #[.str (aa "cells") 414,.str (aa "held") 415,.str (aa "spare") 416] }
noncomputable def sQ (P:ar):Obj:={ cls:=.type "dict",data:=eo #[kE P "__module__" 316 (.str (aa "buddyyard.yard") 307),kE P "__firstlineno__" 320 (.int 51 319),kE P "__init__" 328 (.ref 115),kE P "fitting" 336 (.ref 122),kE P "halve" 346 (.ref 129),kE P "give" 358 (.ref 136),kE P "take_back" 369 (.ref 143),kE P "resize" 380 (.ref 150),kE P "grow" 392 (.ref 157),kE P "free" 398 (.ref 162),kE P "out" 404 (.ref 167),kE P "owner" 413 (.ref 174),kE P "__static_attributes__" 417 (.ref 175),kE P "__dict__" 419 (.ref 178),kE P "__weakref__" 421 (.ref 179),kE P "__doc__" 422 (.none)] 4 }
noncomputable def sP (P:ar):Obj:={ cls:=.type "type",data:=By { name:=aa "Yard",bases:=[.type "object"],mro:=[.ref 177,.type "object"],ns:=176,qualname:=aa "Yard" },slots:=#[none,none,some (.str (aa "Yard") 309),some (.str (aa "Yard") 317),some (.builtin "object.__new__"),some (.bool true)] }
noncomputable def sO (P:ar):Obj:={ cls:=.type "getset_descriptor",data:=aL #[.str (aa "__dict__") 418,.ref 177,.builtin "function.__dict__",.builtin "function.__dict__#set"] }
noncomputable def sN (P:ar):Obj:={ cls:=.type "getset_descriptor",data:=aL #[.str (aa "__weakref__") 420,.ref 177,.builtin "ExceptionGroup.__weakref__",.none] }
noncomputable def wI (P:ar):Obj:={ cls:=.type "super",data:=aL #[.ref 177,.ref 177,.ref 177] }
noncomputable def wH (P:ar):Obj:={ cls:=.type "builtin_function_or_method",data:=aL #[.builtin "object.__init_subclass__",.ref 177] }
noncomputable def hO117 (P:ar):Obj:={ cls:=.type "dict",data:=eo #[kE P "__name__" 165 (.str (aa "law_uf060009_11") 425),kE P "__doc__" 166 (.none),kE P "__package__" 167 (.none),kE P "__loader__" 168 (.builtin "__main__.__loader__#opaque"),kE P "__spec__" 169 (.none),kE P "__annotations__" 170 (.ref 6),kE P "__builtins__" 171 (.ref 4),kE P "__file__" 173 (.str (aa "/claim/cut.py") 172),kE P "__cached__" 174 (.none),kE P "YardError" 206 (.ref 24),kE P "NoYard" 222 (.ref 37),kE P "NoWish" 238 (.ref 49),kE P "NoRoom" 254 (.ref 61),kE P "NotOut" 270 (.ref 73),kE P "MOST" 274 (.int 1152921504606846976 273),kE P "is_size" 282 (.ref 82),kE P "size_for" 290 (.ref 89),kE P "twin_of" 298 (.ref 96),kE P "give_all" 306 (.ref 101),kE P "Yard" 424 (.ref 177),kE P "_law_whole" 433 (.ref 188),kE P "_law_cell_at" 441 (.ref 195),kE P "_law_doubled" 450 (.ref 202),kE P "_law_fitting" 458 (.ref 209),kE P "_law_yard_size" 467 (.ref 216),kE P "_law_want" 477 (.ref 223),kE P "_law_done" 483 (.ref 228),kE P "_law_touched" 489 (.ref 233),kE P "_law_due" 495 (.ref 238),kE P "_law_told" 504 (.ref 245),kE P "_law_halves" 517 (.ref 252),kE P "_law_wishes" 523 (.ref 257),kE P "_law_in_turn" 529 (.ref 262),kE P "_law_owner" 538 (.ref 269)] 34 }
noncomputable def hO118 (P:ar):Obj:={ cls:=.none,data:=aL #[.int 2 0,.int 0 0,.ref 20,.int 4 0,.int 0 0,.ref 33,.int 6 0,.int 0 0,.ref 45,.int 8 0,.int 0 0,.ref 57,.int 10 0,.int 0 0,.ref 69,.int 14 0,.int 0 0,.ref 81,.int 21 0,.int 0 0,.ref 88,.int 28 0,.int 0 0,.ref 95,.int 33 0,.int 0 0,.ref 100,.int 51 0,.int 0 0,.ref 107,.int 135 0,.int 0 0,.ref 187,.int 137 0,.int 0 0,.ref 194,.int 141 0,.int 0 0,.ref 201,.int 146 0,.int 0 0,.ref 208,.int 151 0,.int 0 0,.ref 215,.int 161 0,.int 0 0,.ref 222,.int 171 0,.int 0 0,.ref 227,.int 191 0,.int 0 0,.ref 232,.int 194 0,.int 0 0,.ref 237,.int 207 0,.int 0 0,.ref 244,.int 215 0,.int 0 0,.ref 251,.int 225 0,.int 0 0,.ref 256,.int 236 0,.int 0 0,.ref 261,.int 244 0,.int 0 0,.ref 268] }
noncomputable def wG (P:ar):Obj:={ cls:=.type "tuple",data:=c7 #[.str (aa "_law_found") 430] }
noncomputable def Ar (P:ar):Obj:=f' (o:=eg.main.body[16]?) rfl (ae) (aa "_law_whole") 0 (ae) (ae) (ae) (ae) (none) (ae) (ae) 0
noncomputable def wF (P:ar):Obj:={ cls:=.type "code",data:=aL #[.str (aa "_law_whole") 427,.str (aa "_law_whole") 428,.str (aa "/claim/cut.py") 429,.int 135 0,.int 1 0,.int 0 0,.int 0 0,.int 3 0,.ref 182,.bool true,.int 181 0,.ref 183,.none,.ref 184,.ref 185,.ref 186,.int 431 0,.int 135 0,.str (aa "/claim/cut.py") 432] }
noncomputable def wE (P:ar):Obj:=f' (o:=eg.main.body[16]?) rfl (bz "function") (aa "_law_whole") 3 (ae) (ae) (ae) (bW (aa "law_uf060009_11") 425) (none) (aZ 187) (ae) 0
noncomputable def wD (P:ar):Obj:={ cls:=.type "tuple",data:=c7 #[.str (aa "_law_script") 437,.str (aa "_law_k") 438] }
noncomputable def Aq (P:ar):Obj:=f' (o:=eg.main.body[17]?) rfl (ae) (aa "_law_cell_at") 0 (ae) (ae) (ae) (ae) (none) (ae) (ae) 0
noncomputable def wC (P:ar):Obj:={ cls:=.type "code",data:=aL #[.str (aa "_law_cell_at") 434,.str (aa "_law_cell_at") 435,.str (aa "/claim/cut.py") 436,.int 137 0,.int 2 0,.int 0 0,.int 0 0,.int 3 0,.ref 189,.bool true,.int 181 0,.ref 190,.none,.ref 191,.ref 192,.ref 193,.int 439 0,.int 137 0,.str (aa "/claim/cut.py") 440] }
noncomputable def wB (P:ar):Obj:=f' (o:=eg.main.body[17]?) rfl (bz "function") (aa "_law_cell_at") 3 (ae) (ae) (ae) (bW (aa "law_uf060009_11") 425) (none) (aZ 194) (ae) 0
noncomputable def wA (P:ar):Obj:={ cls:=.type "tuple",data:=c7 #[.str (aa "_law_times") 445,.str (aa "_law_size") 446,.str (aa "_law_k") 447] }
noncomputable def Ap (P:ar):Obj:=f' (o:=eg.main.body[18]?) rfl (ae) (aa "_law_doubled") 0 (ae) (ae) (ae) (ae) (none) (ae) (ae) 0
noncomputable def wz (P:ar):Obj:={ cls:=.type "code",data:=aL #[.str (aa "_law_doubled") 442,.str (aa "_law_doubled") 443,.str (aa "/claim/cut.py") 444,.int 141 0,.int 1 0,.int 0 0,.int 0 0,.int 3 0,.ref 196,.bool true,.int 181 0,.ref 197,.none,.ref 198,.ref 199,.ref 200,.int 448 0,.int 141 0,.str (aa "/claim/cut.py") 449] }
noncomputable def wy (P:ar):Obj:=f' (o:=eg.main.body[18]?) rfl (bz "function") (aa "_law_doubled") 3 (ae) (ae) (ae) (bW (aa "law_uf060009_11") 425) (none) (aZ 201) (ae) 0
noncomputable def wx (P:ar):Obj:={ cls:=.type "tuple",data:=c7 #[.str (aa "_law_want_here") 454,.str (aa "_law_size") 455] }
noncomputable def Ao (P:ar):Obj:=f' (o:=eg.main.body[19]?) rfl (ae) (aa "_law_fitting") 0 (ae) (ae) (ae) (ae) (none) (ae) (ae) 0
noncomputable def ww (P:ar):Obj:={ cls:=.type "code",data:=aL #[.str (aa "_law_fitting") 451,.str (aa "_law_fitting") 452,.str (aa "/claim/cut.py") 453,.int 146 0,.int 1 0,.int 0 0,.int 0 0,.int 3 0,.ref 203,.bool true,.int 181 0,.ref 204,.none,.ref 205,.ref 206,.ref 207,.int 456 0,.int 146 0,.str (aa "/claim/cut.py") 457] }
noncomputable def wv (P:ar):Obj:=f' (o:=eg.main.body[19]?) rfl (bz "function") (aa "_law_fitting") 3 (ae) (ae) (ae) (bW (aa "law_uf060009_11") 425) (none) (aZ 208) (ae) 0
noncomputable def wu (P:ar):Obj:={ cls:=.type "tuple",data:=c7 #[.str (aa "_law_script") 462,.str (aa "_law_way") 463,.str (aa "_law_cell") 464] }
noncomputable def An (P:ar):Obj:=f' (o:=eg.main.body[20]?) rfl (ae) (aa "_law_yard_size") 0 (ae) (ae) (ae) (ae) (none) (ae) (ae) 0
noncomputable def wt (P:ar):Obj:={ cls:=.type "code",data:=aL #[.str (aa "_law_yard_size") 459,.str (aa "_law_yard_size") 460,.str (aa "/claim/cut.py") 461,.int 151 0,.int 1 0,.int 0 0,.int 0 0,.int 3 0,.ref 210,.bool true,.int 181 0,.ref 211,.none,.ref 212,.ref 213,.ref 214,.int 465 0,.int 151 0,.str (aa "/claim/cut.py") 466] }
noncomputable def wq (P:ar):Obj:=f' (o:=eg.main.body[20]?) rfl (bz "function") (aa "_law_yard_size") 3 (ae) (ae) (ae) (bW (aa "law_uf060009_11") 425) (none) (aZ 215) (ae) 0
noncomputable def wp (P:ar):Obj:={ cls:=.type "tuple",data:=c7 #[.str (aa "_law_cell") 471,.str (aa "_law_cells") 472,.str (aa "_law_way") 473,.str (aa "_law_rest") 474] }
noncomputable def Am (P:ar):Obj:=f' (o:=eg.main.body[21]?) rfl (ae) (aa "_law_want") 0 (ae) (ae) (ae) (ae) (none) (ae) (ae) 0
noncomputable def wo (P:ar):Obj:={ cls:=.type "code",data:=aL #[.str (aa "_law_want") 468,.str (aa "_law_want") 469,.str (aa "/claim/cut.py") 470,.int 161 0,.int 2 0,.int 0 0,.int 0 0,.int 3 0,.ref 217,.bool true,.int 181 0,.ref 218,.none,.ref 219,.ref 220,.ref 221,.int 475 0,.int 161 0,.str (aa "/claim/cut.py") 476] }
noncomputable def wn (P:ar):Obj:=f' (o:=eg.main.body[21]?) rfl (bz "function") (aa "_law_want") 3 (ae) (ae) (ae) (bW (aa "law_uf060009_11") 425) (none) (aZ 222) (ae) 0
noncomputable def Al (P:ar):Obj:=f' (o:=eg.main.body[22]?) rfl (ae) (aa "_law_done") 0 (ae) (ae) (ae) (ae) (none) (ae) (ae) 0
noncomputable def wm (P:ar):Obj:={ cls:=.type "code",data:=aL #[.str (aa "_law_done") 478,.str (aa "_law_done") 479,.str (aa "/claim/cut.py") 480,.int 171 0,.int 4 0,.int 0 0,.int 0 0,.int 3 0,.ref 224,.bool true,.int 181 0,.ref 225,.none,.none,.none,.ref 226,.int 481 0,.int 171 0,.str (aa "/claim/cut.py") 482] }
noncomputable def wl (P:ar):Obj:=f' (o:=eg.main.body[22]?) rfl (bz "function") (aa "_law_done") 3 (ae) (ae) (ae) (bW (aa "law_uf060009_11") 425) (none) (aZ 227) (ae) 0
noncomputable def Ak (P:ar):Obj:=f' (o:=eg.main.body[23]?) rfl (ae) (aa "_law_touched") 0 (ae) (ae) (ae) (ae) (none) (ae) (ae) 0
noncomputable def wk (P:ar):Obj:={ cls:=.type "code",data:=aL #[.str (aa "_law_touched") 484,.str (aa "_law_touched") 485,.str (aa "/claim/cut.py") 486,.int 191 0,.int 2 0,.int 0 0,.int 0 0,.int 3 0,.ref 229,.bool true,.int 181 0,.ref 230,.none,.none,.none,.ref 231,.int 487 0,.int 191 0,.str (aa "/claim/cut.py") 488] }
noncomputable def wj (P:ar):Obj:=f' (o:=eg.main.body[23]?) rfl (bz "function") (aa "_law_touched") 3 (ae) (ae) (ae) (bW (aa "law_uf060009_11") 425) (none) (aZ 232) (ae) 0
noncomputable def Aj (P:ar):Obj:=f' (o:=eg.main.body[24]?) rfl (ae) (aa "_law_due") 0 (ae) (ae) (ae) (ae) (none) (ae) (ae) 0
noncomputable def wh (P:ar):Obj:={ cls:=.type "code",data:=aL #[.str (aa "_law_due") 490,.str (aa "_law_due") 491,.str (aa "/claim/cut.py") 492,.int 194 0,.int 3 0,.int 0 0,.int 0 0,.int 3 0,.ref 234,.bool true,.int 181 0,.ref 235,.none,.none,.none,.ref 236,.int 493 0,.int 194 0,.str (aa "/claim/cut.py") 494] }
noncomputable def wg (P:ar):Obj:=f' (o:=eg.main.body[24]?) rfl (bz "function") (aa "_law_due") 3 (ae) (ae) (ae) (bW (aa "law_uf060009_11") 425) (none) (aZ 237) (ae) 0
noncomputable def wf (P:ar):Obj:={ cls:=.type "tuple",data:=c7 #[.str (aa "_law_yard") 499,.str (aa "_law_wants") 500,.str (aa "_law_places") 501] }
noncomputable def Ai (P:ar):Obj:=f' (o:=eg.main.body[25]?) rfl (ae) (aa "_law_told") 0 (ae) (ae) (ae) (ae) (none) (ae) (ae) 0
noncomputable def we (P:ar):Obj:={ cls:=.type "code",data:=aL #[.str (aa "_law_told") 496,.str (aa "_law_told") 497,.str (aa "/claim/cut.py") 498,.int 207 0,.int 2 0,.int 0 0,.int 0 0,.int 3 0,.ref 239,.bool true,.int 181 0,.ref 240,.none,.ref 241,.ref 242,.ref 243,.int 502 0,.int 207 0,.str (aa "/claim/cut.py") 503] }
noncomputable def wd (P:ar):Obj:=f' (o:=eg.main.body[25]?) rfl (bz "function") (aa "_law_told") 3 (ae) (ae) (ae) (bW (aa "law_uf060009_11") 425) (none) (aZ 244) (ae) 0
noncomputable def wc (P:ar):Obj:={ cls:=.type "tuple",data:=c7 #[.str (aa "_law_cells") 508,.str (aa "_law_row") 509,.str (aa "_law_wants") 510,.str (aa "_law_cell") 511,.str (aa "_law_place") 512,.str (aa "_law_half") 513,.str (aa "_law_at") 514] }
noncomputable def Ah (P:ar):Obj:=f' (o:=eg.main.body[26]?) rfl (ae) (aa "_law_halves") 0 (ae) (ae) (ae) (ae) (none) (ae) (ae) 0
noncomputable def wb (P:ar):Obj:={ cls:=.type "code",data:=aL #[.str (aa "_law_halves") 505,.str (aa "_law_halves") 506,.str (aa "/claim/cut.py") 507,.int 215 0,.int 2 0,.int 0 0,.int 0 0,.int 3 0,.ref 246,.bool true,.int 181 0,.ref 247,.none,.ref 248,.ref 249,.ref 250,.int 515 0,.int 215 0,.str (aa "/claim/cut.py") 516] }
noncomputable def wa (P:ar):Obj:=f' (o:=eg.main.body[26]?) rfl (bz "function") (aa "_law_halves") 3 (ae) (ae) (ae) (bW (aa "law_uf060009_11") 425) (none) (aZ 251) (ae) 0
noncomputable def Ag (P:ar):Obj:=f' (o:=eg.main.body[27]?) rfl (ae) (aa "_law_wishes") 0 (ae) (ae) (ae) (ae) (none) (ae) (ae) 0
noncomputable def v8 (P:ar):Obj:={ cls:=.type "code",data:=aL #[.str (aa "_law_wishes") 518,.str (aa "_law_wishes") 519,.str (aa "/claim/cut.py") 520,.int 225 0,.int 3 0,.int 0 0,.int 0 0,.int 3 0,.ref 253,.bool true,.int 181 0,.ref 254,.none,.none,.none,.ref 255,.int 521 0,.int 225 0,.str (aa "/claim/cut.py") 522] }
noncomputable def v7 (P:ar):Obj:=f' (o:=eg.main.body[27]?) rfl (bz "function") (aa "_law_wishes") 3 (ae) (ae) (ae) (bW (aa "law_uf060009_11") 425) (none) (aZ 256) (ae) 0
noncomputable def Af (P:ar):Obj:=f' (o:=eg.main.body[28]?) rfl (ae) (aa "_law_in_turn") 0 (ae) (ae) (ae) (ae) (none) (ae) (ae) 0
noncomputable def v6 (P:ar):Obj:={ cls:=.type "code",data:=aL #[.str (aa "_law_in_turn") 524,.str (aa "_law_in_turn") 525,.str (aa "/claim/cut.py") 526,.int 236 0,.int 1 0,.int 0 0,.int 0 0,.int 3 0,.ref 258,.bool true,.int 181 0,.ref 259,.none,.none,.none,.ref 260,.int 527 0,.int 236 0,.str (aa "/claim/cut.py") 528] }
noncomputable def v5 (P:ar):Obj:=f' (o:=eg.main.body[28]?) rfl (bz "function") (aa "_law_in_turn") 3 (ae) (ae) (ae) (bW (aa "law_uf060009_11") 425) (none) (aZ 261) (ae) 0
noncomputable def v4 (P:ar):Obj:={ cls:=.type "tuple",data:=c7 #[.str (aa "_law_held") 533,.str (aa "_law_cell") 534,.str (aa "_law_piece") 535] }
noncomputable def Ae (P:ar):Obj:=f' (o:=eg.main.body[29]?) rfl (ae) (aa "_law_owner") 0 (ae) (ae) (ae) (ae) (none) (ae) (ae) 0
noncomputable def v3 (P:ar):Obj:={ cls:=.type "code",data:=aL #[.str (aa "_law_owner") 530,.str (aa "_law_owner") 531,.str (aa "/claim/cut.py") 532,.int 244 0,.int 2 0,.int 0 0,.int 0 0,.int 3 0,.ref 263,.bool true,.int 181 0,.ref 264,.none,.ref 265,.ref 266,.ref 267,.int 536 0,.int 244 0,.str (aa "/claim/cut.py") 537] }
noncomputable def v0 (P:ar):Obj:=f' (o:=eg.main.body[29]?) rfl (bz "function") (aa "_law_owner") 3 (ae) (ae) (ae) (bW (aa "law_uf060009_11") 425) (none) (aZ 268) (ae) 0
noncomputable def Ad (P:ar):Obj:={ cls:=.type "dict",data:=eo #[kE P "__name__" 165 (.str (aa "law_uf060009_11") 425),kE P "__doc__" 166 (.none),kE P "__package__" 167 (.none),kE P "__loader__" 168 (.builtin "__main__.__loader__#opaque"),kE P "__spec__" 169 (.none),kE P "__annotations__" 170 (.ref 6),kE P "__builtins__" 171 (.ref 4),kE P "__file__" 173 (.str (aa "/claim/cut.py") 172),kE P "__cached__" 174 (.none),kE P "YardError" 206 (.ref 24),kE P "NoYard" 222 (.ref 37),kE P "NoWish" 238 (.ref 49),kE P "NoRoom" 254 (.ref 61),kE P "NotOut" 270 (.ref 73),kE P "MOST" 274 (.int 1152921504606846976 273),kE P "is_size" 282 (.ref 82),kE P "size_for" 290 (.ref 89),kE P "twin_of" 298 (.ref 96),kE P "give_all" 306 (.ref 101),kE P "Yard" 424 (.ref 177),kE P "_law_whole" 433 (.ref 188),kE P "_law_cell_at" 441 (.ref 195),kE P "_law_doubled" 450 (.ref 202),kE P "_law_fitting" 458 (.ref 209),kE P "_law_yard_size" 467 (.ref 216),kE P "_law_want" 477 (.ref 223),kE P "_law_done" 483 (.ref 228),kE P "_law_touched" 489 (.ref 233),kE P "_law_due" 495 (.ref 238),kE P "_law_told" 504 (.ref 245),kE P "_law_halves" 517 (.ref 252),kE P "_law_wishes" 523 (.ref 257),kE P "_law_in_turn" 529 (.ref 262),kE P "_law_owner" 538 (.ref 269),kE P "_law_owners" 549 (.ref 276),kE P "_law_behind" 561 (.ref 283),kE P "law" 580 (.ref 290)] 37 }
noncomputable def DD (P:ar):Obj:={ cls:=.none,data:=aL #[.int 2 0,.int 0 0,.ref 20,.int 4 0,.int 0 0,.ref 33,.int 6 0,.int 0 0,.ref 45,.int 8 0,.int 0 0,.ref 57,.int 10 0,.int 0 0,.ref 69,.int 14 0,.int 0 0,.ref 81,.int 21 0,.int 0 0,.ref 88,.int 28 0,.int 0 0,.ref 95,.int 33 0,.int 0 0,.ref 100,.int 51 0,.int 0 0,.ref 107,.int 135 0,.int 0 0,.ref 187,.int 137 0,.int 0 0,.ref 194,.int 141 0,.int 0 0,.ref 201,.int 146 0,.int 0 0,.ref 208,.int 151 0,.int 0 0,.ref 215,.int 161 0,.int 0 0,.ref 222,.int 171 0,.int 0 0,.ref 227,.int 191 0,.int 0 0,.ref 232,.int 194 0,.int 0 0,.ref 237,.int 207 0,.int 0 0,.ref 244,.int 215 0,.int 0 0,.ref 251,.int 225 0,.int 0 0,.ref 256,.int 236 0,.int 0 0,.ref 261,.int 244 0,.int 0 0,.ref 268,.int 249 0,.int 0 0,.ref 275,.int 254 0,.int 0 0,.ref 282,.int 269 0,.int 0 0,.ref 289] }
noncomputable def Ac (P:ar):Obj:={ cls:=.type "tuple",data:=c7 #[.str (aa "_law_yard") 542,.str (aa "_law_held") 543,.str (aa "_law_cells") 544,.str (aa "_law_wants") 545,.str (aa "_law_cell") 546] }
noncomputable def DC (P:ar):Obj:=f' (o:=eg.main.body[30]?) rfl (ae) (aa "_law_owners") 0 (ae) (ae) (ae) (ae) (none) (ae) (ae) 0
noncomputable def Ab (P:ar):Obj:={ cls:=.type "code",data:=aL #[.str (aa "_law_owners") 539,.str (aa "_law_owners") 540,.str (aa "/claim/cut.py") 541,.int 249 0,.int 4 0,.int 0 0,.int 0 0,.int 3 0,.ref 270,.bool true,.int 181 0,.ref 271,.none,.ref 272,.ref 273,.ref 274,.int 547 0,.int 249 0,.str (aa "/claim/cut.py") 548] }
noncomputable def Aa (P:ar):Obj:=f' (o:=eg.main.body[30]?) rfl (bz "function") (aa "_law_owners") 3 (ae) (ae) (ae) (bW (aa "law_uf060009_11") 425) (none) (aZ 275) (ae) 0
noncomputable def zZ (P:ar):Obj:={ cls:=.type "tuple",data:=c7 #[.str (aa "_law_yard") 553,.str (aa "_law_places") 554,.str (aa "_law_held") 555,.str (aa "_law_kept") 556,.str (aa "_law_piece") 557,.str (aa "_law_one") 558] }
noncomputable def DB (P:ar):Obj:=f' (o:=eg.main.body[31]?) rfl (ae) (aa "_law_behind") 0 (ae) (ae) (ae) (ae) (none) (ae) (ae) 0
noncomputable def zY (P:ar):Obj:={ cls:=.type "code",data:=aL #[.str (aa "_law_behind") 550,.str (aa "_law_behind") 551,.str (aa "/claim/cut.py") 552,.int 254 0,.int 3 0,.int 0 0,.int 0 0,.int 3 0,.ref 277,.bool true,.int 181 0,.ref 278,.none,.ref 279,.ref 280,.ref 281,.int 559 0,.int 254 0,.str (aa "/claim/cut.py") 560] }
noncomputable def zX (P:ar):Obj:=f' (o:=eg.main.body[31]?) rfl (bz "function") (aa "_law_behind") 3 (ae) (ae) (ae) (bW (aa "law_uf060009_11") 425) (none) (aZ 282) (ae) 0
noncomputable def zW (P:ar):Obj:={ cls:=.type "tuple",data:=c7 #[.str (aa "_law_script") 565,.str (aa "_law_cells") 566,.str (aa "_law_yard") 567,.str (aa "_law_held") 568,.str (aa "_law_cell") 569,.str (aa "_law_wants") 570,.str (aa "_law_due_here") 571,.str (aa "_law_before") 572,.str (aa "_law_handed") 573,.str (aa "_law_told_here") 574,.str (aa "_law_k") 575,.str (aa "_law_more") 576,.str (aa "_law_copies") 577] }
noncomputable def DA (P:ar):Obj:=f' (o:=eg.main.body[32]?) rfl (ae) (aa "law") 0 (ae) (ae) (ae) (ae) (none) (ae) (ae) 0
noncomputable def zV (P:ar):Obj:={ cls:=.type "code",data:=aL #[.str (aa "law") 562,.str (aa "law") 563,.str (aa "/claim/cut.py") 564,.int 269 0,.int 1 0,.int 0 0,.int 0 0,.int 3 0,.ref 284,.bool true,.int 181 0,.ref 285,.none,.ref 286,.ref 287,.ref 288,.int 578 0,.int 269 0,.str (aa "/claim/cut.py") 579] }
noncomputable def zU (P:ar):Obj:=f' (o:=eg.main.body[32]?) rfl (bz "function") (aa "law") 3 (ae) (ae) (ae) (bW (aa "law_uf060009_11") 425) (none) (aZ 289) (ae) 0
noncomputable def hs6:List Stmt:=[]
noncomputable def hg5:List Stmt:=((j' eg).drop 30).take 3
noncomputable def hs5:List Stmt:=hg5++hs6
noncomputable def hg4:List Stmt:=((j' eg).drop 15).take 15
noncomputable def hs4:List Stmt:=hg4++hs5
noncomputable def hg3:List Stmt:=((j' eg).drop 14).take 1
noncomputable def hs3:List Stmt:=hg3++hs4
noncomputable def hg2:List Stmt:=((j' eg).drop 5).take 9
noncomputable def hs2:List Stmt:=hg2++hs3
noncomputable def hg1:List Stmt:=((j' eg).drop 3).take 2
noncomputable def hs1:List Stmt:=hg1++hs2
noncomputable def hg0:List Stmt:=((j' eg).drop 0).take 3
noncomputable def Et:List Stmt:=hg0++hs1
noncomputable def hC:Code:=.body Et hE
noncomputable abbrev hB:List Frame:=[topFrame ({ line:=0,col:=0,endLine:=0,endCol:=0 }:Pos)]
noncomputable def hHa (P:ar):Heap:=⟨⟨vk P::vj P::p4 P::boot_o_3 P::vi P::vh P::vg P::vf P::ve P::u8 P::pH P::aY P::cK P::CO P::CN P::[]⟩,({ })⟩
noncomputable def hT0 (P:ar):pM:=(.node (vk P) (.node (vj P) (.node (boot_o_3 P) (.node (vf P) .nil .nil) (.node (aY P) .nil .nil)) (.node (vh P) (.node (u8 P) .nil .nil) (.node (CO P) .nil .nil))) (.node (p4 P) (.node (vi P) (.node (ve P) .nil .nil) (.node (cK P) .nil .nil)) (.node (vg P) (.node (pH P) .nil .nil) (.node (CN P) .nil .nil))))
noncomputable abbrev hS0 (w:World) (os:gY):SharedT:=⟨hT0 w.params,15,({ }),⟨[]⟩,({ }),187,os⟩
noncomputable def hT1 (P:ar):pM:=(.node (vk P) (.node (vj P) (.node (hO4 P) (.node (vf P) (.node (Dz P) (.node (aY P) .nil .nil) .nil) (.node (sT P) (.node (uJ P) .nil .nil) .nil)) (.node (aY P) (.node (cK P) (.node (aY P) .nil .nil) .nil) (.node (uO P) .nil .nil))) (.node (vh P) (.node (u8 P) (.node (EA P) (.node (uM P) .nil .nil) .nil) (.node (sM P) .nil .nil)) (.node (CO P) (.node (uQ P) (.node (sK P) .nil .nil) .nil) (.node (kz P) .nil .nil)))) (.node (p4 P) (.node (vi P) (.node (ve P) (.node (kz P) (.node (cK P) .nil .nil) .nil) (.node (hO12 P) .nil .nil)) (.node (hO5 P) (.node (Ez P) (.node (sL P) .nil .nil) .nil) (.node (gA P) .nil .nil))) (.node (vg P) (.node (pH P) (.node (aY P) (.node (uL P) .nil .nil) .nil) (.node (uP P) .nil .nil)) (.node (CN P) (.node (aY P) (.node (uK P) .nil .nil) .nil) (.node (uN P) .nil .nil)))))
noncomputable abbrev hS1 (w:World) (os:gY):SharedT:=⟨hT1 w.params,40,({ }),⟨[]⟩,({ }),223,os⟩
noncomputable def hT2 (P:ar):pM:=(.node (vk P) (.node (vj P) (.node (hO24 P) (.node (vf P) (.node (Dz P) (.node (aY P) (.node (xR P) .nil .nil) .nil) (.node (aY P) .nil .nil)) (.node (sT P) (.node (uJ P) .nil .nil) (.node (aY P) .nil .nil))) (.node (aY P) (.node (cK P) (.node (aY P) .nil .nil) (.node (xW P) .nil .nil)) (.node (uO P) (.node (aY P) .nil .nil) (.node (aY P) .nil .nil)))) (.node (vh P) (.node (u8 P) (.node (EA P) (.node (uM P) .nil .nil) (.node (uH P) .nil .nil)) (.node (sM P) (.node (kz P) .nil .nil) (.node (xU P) .nil .nil))) (.node (CO P) (.node (uQ P) (.node (sK P) .nil .nil) (.node (kz P) .nil .nil)) (.node (kz P) (.node (xZ P) .nil .nil) (.node (uF P) .nil .nil))))) (.node (p4 P) (.node (vi P) (.node (ve P) (.node (kz P) (.node (cK P) .nil .nil) (.node (uI P) .nil .nil)) (.node (hO26 P) (.node (gA P) .nil .nil) (.node (cK P) .nil .nil))) (.node (hO25 P) (.node (Ez P) (.node (sL P) .nil .nil) (.node (gA P) .nil .nil)) (.node (gA P) (.node (cK P) .nil .nil) (.node (uG P) .nil .nil)))) (.node (vg P) (.node (pH P) (.node (aY P) (.node (uL P) .nil .nil) (.node (xX P) .nil .nil)) (.node (uP P) (.node (x6 P) .nil .nil) (.node (xT P) .nil .nil))) (.node (CN P) (.node (aY P) (.node (uK P) .nil .nil) (.node (xV P) .nil .nil)) (.node (uN P) (.node (xY P) .nil .nil) (.node (xS P) .nil .nil))))))
noncomputable abbrev hS2 (w:World) (os:gY):SharedT:=⟨hT2 w.params,64,({ }),⟨[]⟩,({ }),255,os⟩
noncomputable def hT3 (P:ar):pM:=(.node (vk P) (.node (vj P) (.node (hO41 P) (.node (vf P) (.node (Dz P) (.node (aY P) (.node (xR P) .nil .nil) (.node (xG P) .nil .nil)) (.node (aY P) (.node (aY P) .nil .nil) .nil)) (.node (sT P) (.node (uJ P) (.node (aY P) .nil .nil) .nil) (.node (aY P) (.node (zN P) .nil .nil) .nil))) (.node (aY P) (.node (cK P) (.node (aY P) (.node (aY P) .nil .nil) (.node (zL P) .nil .nil)) (.node (xW P) (.node (aY P) .nil .nil) .nil)) (.node (uO P) (.node (aY P) (.node (zP P) .nil .nil) .nil) (.node (aY P) (.node (cK P) .nil .nil) .nil)))) (.node (vh P) (.node (u8 P) (.node (EA P) (.node (uM P) (.node (kz P) .nil .nil) (.node (aY P) .nil .nil)) (.node (uH P) (.node (xM P) .nil .nil) .nil)) (.node (sM P) (.node (kz P) (.node (xO P) .nil .nil) .nil) (.node (xU P) (.node (xI P) .nil .nil) .nil))) (.node (CO P) (.node (uQ P) (.node (sK P) (.node (zS P) .nil .nil) (.node (xD P) .nil .nil)) (.node (kz P) (.node (xK P) .nil .nil) .nil)) (.node (kz P) (.node (xZ P) (.node (cK P) .nil .nil) .nil) (.node (uF P) (.node (aY P) .nil .nil) .nil))))) (.node (p4 P) (.node (vi P) (.node (ve P) (.node (kz P) (.node (cK P) (.node (gA P) .nil .nil) (.node (xF P) .nil .nil)) (.node (uI P) (.node (zO P) .nil .nil) .nil)) (.node (xQ P) (.node (gA P) (.node (xP P) .nil .nil) .nil) (.node (cK P) (.node (xJ P) .nil .nil) .nil))) (.node (hO42 P) (.node (Ez P) (.node (sL P) (.node (cK P) .nil .nil) (.node (xE P) .nil .nil)) (.node (gA P) (.node (cK P) .nil .nil) .nil)) (.node (gA P) (.node (cK P) (.node (aY P) .nil .nil) .nil) (.node (uG P) (.node (xH P) .nil .nil) .nil)))) (.node (vg P) (.node (pH P) (.node (aY P) (.node (uL P) (.node (zT P) .nil .nil) (.node (cK P) .nil .nil)) (.node (xX P) (.node (xL P) .nil .nil) .nil)) (.node (uP P) (.node (x6 P) (.node (zQ P) .nil .nil) .nil) (.node (xT P) (.node (aY P) .nil .nil) .nil))) (.node (CN P) (.node (aY P) (.node (uK P) (.node (zR P) .nil .nil) .nil) (.node (xV P) (.node (aY P) .nil .nil) .nil)) (.node (uN P) (.node (xY P) (.node (xN P) .nil .nil) .nil) (.node (xS P) (.node (zM P) .nil .nil) .nil))))))
noncomputable abbrev hS3 (w:World) (os:gY):SharedT:=⟨hT3 w.params,102,({ }),⟨[]⟩,({ }),309,os⟩
noncomputable def hT4 (P:ar):pM:=(.node (vk P) (.node (vj P) (.node (hO66 P) (.node (vf P) (.node (Dz P) (.node (aY P) (.node (xR P) (.node (CG P) .nil .nil) .nil) (.node (xG P) (.node (cK P) .nil .nil) .nil)) (.node (aY P) (.node (aY P) (.node (zt P) .nil .nil) .nil) (.node (zK P) (.node (sR P) .nil .nil) .nil))) (.node (sT P) (.node (uJ P) (.node (aY P) (.node (zA P) .nil .nil) .nil) (.node (kz P) (.node (sX P) .nil .nil) .nil)) (.node (aY P) (.node (zN P) (.node (aY P) .nil .nil) .nil) (.node (aY P) .nil .nil)))) (.node (aY P) (.node (cK P) (.node (aY P) (.node (aY P) (.node (cK P) .nil .nil) .nil) (.node (zL P) (.node (aY P) .nil .nil) .nil)) (.node (xW P) (.node (aY P) (.node (aY P) .nil .nil) .nil) (.node (zI P) (.node (sN P) .nil .nil) .nil))) (.node (uO P) (.node (aY P) (.node (zP P) (.node (zv P) .nil .nil) .nil) (.node (CK P) (.node (aY P) .nil .nil) .nil)) (.node (aY P) (.node (cK P) (.node (CC P) .nil .nil) .nil) (.node (aY P) .nil .nil))))) (.node (vh P) (.node (u8 P) (.node (EA P) (.node (uM P) (.node (kz P) (.node (zC P) .nil .nil) .nil) (.node (aY P) (.node (s0 P) .nil .nil) .nil)) (.node (uH P) (.node (xM P) (.node (cK P) .nil .nil) .nil) (.node (CI P) (.node (sP P) .nil .nil) .nil))) (.node (sM P) (.node (kz P) (.node (xO P) (.node (aY P) .nil .nil) .nil) (.node (aY P) (.node (cK P) .nil .nil) .nil)) (.node (xU P) (.node (xI P) (.node (zp P) .nil .nil) .nil) (.node (zG P) .nil .nil)))) (.node (CO P) (.node (uQ P) (.node (sK P) (.node (zS P) (.node (aY P) .nil .nil) .nil) (.node (xD P) (.node (wK P) .nil .nil) .nil)) (.node (kz P) (.node (xK P) (.node (zr P) .nil .nil) .nil) (.node (cK P) (.node (wH P) .nil .nil) .nil))) (.node (kz P) (.node (xZ P) (.node (cK P) (.node (CE P) .nil .nil) .nil) (.node (aY P) (.node (sV P) .nil .nil) .nil)) (.node (uF P) (.node (aY P) (.node (zn P) .nil .nil) .nil) (.node (zE P) .nil .nil)))))) (.node (p4 P) (.node (vi P) (.node (ve P) (.node (kz P) (.node (cK P) (.node (gA P) (.node (zD P) .nil .nil) .nil) (.node (xF P) (.node (wL P) .nil .nil) .nil)) (.node (uI P) (.node (zO P) (.node (aY P) .nil .nil) .nil) (.node (aY P) (.node (sQ P) .nil .nil) .nil))) (.node (xQ P) (.node (gA P) (.node (xP P) (.node (zw P) .nil .nil) .nil) (.node (CM P) (.node (aY P) .nil .nil) .nil)) (.node (cK P) (.node (xJ P) (.node (cK P) .nil .nil) .nil) (.node (CH P) .nil .nil)))) (.node (hO67 P) (.node (Ez P) (.node (sL P) (.node (cK P) (.node (zB P) .nil .nil) .nil) (.node (xE P) (.node (cK P) .nil .nil) .nil)) (.node (gA P) (.node (cK P) (.node (CD P) .nil .nil) .nil) (.node (aY P) (.node (wI P) .nil .nil) .nil))) (.node (gA P) (.node (cK P) (.node (aY P) (.node (aY P) .nil .nil) .nil) (.node (CJ P) (.node (wJ P) .nil .nil) .nil)) (.node (uG P) (.node (xH P) (.node (zo P) .nil .nil) .nil) (.node (cK P) .nil .nil))))) (.node (vg P) (.node (pH P) (.node (aY P) (.node (uL P) (.node (zT P) (.node (aY P) .nil .nil) .nil) (.node (cK P) (.node (sZ P) .nil .nil) .nil)) (.node (xX P) (.node (xL P) (.node (zs P) .nil .nil) .nil) (.node (zJ P) (.node (sO P) .nil .nil) .nil))) (.node (uP P) (.node (x6 P) (.node (zQ P) (.node (cK P) .nil .nil) .nil) (.node (CL P) (.node (sW P) .nil .nil) .nil)) (.node (xT P) (.node (aY P) (.node (aY P) .nil .nil) .nil) (.node (zF P) .nil .nil)))) (.node (CN P) (.node (aY P) (.node (uK P) (.node (zR P) (.node (CF P) .nil .nil) .nil) (.node (aY P) (.node (sY P) .nil .nil) .nil)) (.node (xV P) (.node (aY P) (.node (zq P) .nil .nil) .nil) (.node (zH P) .nil .nil))) (.node (uN P) (.node (xY P) (.node (xN P) (.node (zu P) .nil .nil) .nil) (.node (cK P) (.node (sU P) .nil .nil) .nil)) (.node (xS P) (.node (zM P) (.node (aY P) .nil .nil) .nil) (.node (aY P) .nil .nil)))))))
noncomputable abbrev hS4 (w:World) (os:gY):SharedT:=⟨hT4 w.params,182,({ }),⟨[]⟩,({ }),425,os⟩
noncomputable def hT5 (P:ar):pM:=(.node (vk P) (.node (vj P) (.node (hO117 P) (.node (vf P) (.node (Dz P) (.node (aY P) (.node (xR P) (.node (CG P) (.node (Ag P) .nil .nil) .nil) (.node (wD P) .nil .nil)) (.node (xG P) (.node (cK P) .nil .nil) (.node (wn P) .nil .nil))) (.node (aY P) (.node (aY P) (.node (zt P) .nil .nil) (.node (Ao P) .nil .nil)) (.node (zK P) (.node (sR P) .nil .nil) (.node (aY P) .nil .nil)))) (.node (sT P) (.node (uJ P) (.node (aY P) (.node (zA P) (.node (aY P) .nil .nil) .nil) (.node (aY P) .nil .nil)) (.node (kz P) (.node (sX P) .nil .nil) (.node (Ak P) .nil .nil))) (.node (aY P) (.node (zN P) (.node (aY P) .nil .nil) (.node (wt P) .nil .nil)) (.node (aY P) (.node (cK P) .nil .nil) (.node (cK P) .nil .nil))))) (.node (aY P) (.node (cK P) (.node (aY P) (.node (aY P) (.node (cK P) (.node (cK P) .nil .nil) .nil) (.node (wB P) .nil .nil)) (.node (zL P) (.node (aY P) .nil .nil) (.node (wm P) .nil .nil))) (.node (xW P) (.node (aY P) (.node (aY P) .nil .nil) (.node (cK P) .nil .nil)) (.node (zI P) (.node (sN P) .nil .nil) (.node (Ai P) .nil .nil)))) (.node (uO P) (.node (aY P) (.node (zP P) (.node (zv P) (.node (Ae P) .nil .nil) .nil) (.node (aY P) .nil .nil)) (.node (CK P) (.node (aY P) .nil .nil) (.node (cK P) .nil .nil))) (.node (aY P) (.node (cK P) (.node (CC P) .nil .nil) (.node (wp P) .nil .nil)) (.node (aY P) (.node (wF P) .nil .nil) (.node (wb P) .nil .nil)))))) (.node (vh P) (.node (u8 P) (.node (EA P) (.node (uM P) (.node (kz P) (.node (zC P) (.node (v7 P) .nil .nil) .nil) (.node (Aq P) .nil .nil)) (.node (aY P) (.node (s0 P) .nil .nil) (.node (cK P) .nil .nil))) (.node (uH P) (.node (xM P) (.node (cK P) .nil .nil) (.node (wv P) .nil .nil)) (.node (CI P) (.node (sP P) .nil .nil) (.node (wf P) .nil .nil)))) (.node (sM P) (.node (kz P) (.node (xO P) (.node (aY P) (.node (v4 P) .nil .nil) .nil) (.node (wz P) .nil .nil)) (.node (aY P) (.node (cK P) .nil .nil) (.node (wj P) .nil .nil))) (.node (xU P) (.node (xI P) (.node (zp P) .nil .nil) (.node (aY P) .nil .nil)) (.node (zG P) (.node (aY P) .nil .nil) (.node (aY P) .nil .nil))))) (.node (CO P) (.node (uQ P) (.node (sK P) (.node (zS P) (.node (aY P) (.node (v6 P) .nil .nil) .nil) (.node (cK P) .nil .nil)) (.node (xD P) (.node (wK P) .nil .nil) (.node (aY P) .nil .nil))) (.node (kz P) (.node (xK P) (.node (zr P) .nil .nil) (.node (aY P) .nil .nil)) (.node (cK P) (.node (wH P) .nil .nil) (.node (wd P) .nil .nil)))) (.node (kz P) (.node (xZ P) (.node (cK P) (.node (CE P) (.node (v0 P) .nil .nil) .nil) (.node (wx P) .nil .nil)) (.node (aY P) (.node (sV P) .nil .nil) (.node (wh P) .nil .nil))) (.node (uF P) (.node (aY P) (.node (zn P) .nil .nil) (.node (Am P) .nil .nil)) (.node (zE P) (.node (aY P) .nil .nil) (.node (aY P) .nil .nil))))))) (.node (p4 P) (.node (vi P) (.node (ve P) (.node (kz P) (.node (cK P) (.node (gA P) (.node (zD P) (.node (v8 P) .nil .nil) .nil) (.node (aY P) .nil .nil)) (.node (xF P) (.node (wL P) .nil .nil) (.node (aY P) .nil .nil))) (.node (uI P) (.node (zO P) (.node (aY P) .nil .nil) (.node (ww P) .nil .nil)) (.node (aY P) (.node (sQ P) .nil .nil) (.node (cK P) .nil .nil)))) (.node (xQ P) (.node (gA P) (.node (xP P) (.node (zw P) (.node (cK P) .nil .nil) .nil) (.node (Ap P) .nil .nil)) (.node (CM P) (.node (aY P) .nil .nil) (.node (wk P) .nil .nil))) (.node (cK P) (.node (xJ P) (.node (cK P) .nil .nil) (.node (wq P) .nil .nil)) (.node (CH P) (.node (wG P) .nil .nil) (.node (wc P) .nil .nil))))) (.node (hO118 P) (.node (Ez P) (.node (sL P) (.node (cK P) (.node (zB P) (.node (Af P) .nil .nil) .nil) (.node (aY P) .nil .nil)) (.node (xE P) (.node (cK P) .nil .nil) (.node (wl P) .nil .nil))) (.node (gA P) (.node (cK P) (.node (CD P) .nil .nil) (.node (wu P) .nil .nil)) (.node (aY P) (.node (wI P) .nil .nil) (.node (we P) .nil .nil)))) (.node (gA P) (.node (cK P) (.node (aY P) (.node (aY P) (.node (v3 P) .nil .nil) .nil) (.node (cK P) .nil .nil)) (.node (CJ P) (.node (wJ P) .nil .nil) (.node (Aj P) .nil .nil))) (.node (uG P) (.node (xH P) (.node (zo P) .nil .nil) (.node (aY P) .nil .nil)) (.node (cK P) (.node (wE P) .nil .nil) (.node (wa P) .nil .nil)))))) (.node (vg P) (.node (pH P) (.node (aY P) (.node (uL P) (.node (zT P) (.node (aY P) (.node (aY P) .nil .nil) .nil) (.node (wC P) .nil .nil)) (.node (cK P) (.node (sZ P) .nil .nil) (.node (Al P) .nil .nil))) (.node (xX P) (.node (xL P) (.node (zs P) .nil .nil) (.node (aY P) .nil .nil)) (.node (zJ P) (.node (sO P) .nil .nil) (.node (aY P) .nil .nil)))) (.node (uP P) (.node (x6 P) (.node (zQ P) (.node (cK P) (.node (aY P) .nil .nil) .nil) (.node (wy P) .nil .nil)) (.node (CL P) (.node (sW P) .nil .nil) (.node (aY P) .nil .nil))) (.node (xT P) (.node (aY P) (.node (aY P) .nil .nil) (.node (cK P) .nil .nil)) (.node (zF P) (.node (Ar P) .nil .nil) (.node (Ah P) .nil .nil))))) (.node (CN P) (.node (aY P) (.node (uK P) (.node (zR P) (.node (CF P) (.node (v5 P) .nil .nil) .nil) (.node (wA P) .nil .nil)) (.node (aY P) (.node (sY P) .nil .nil) (.node (cK P) .nil .nil))) (.node (xV P) (.node (aY P) (.node (zq P) .nil .nil) (.node (An P) .nil .nil)) (.node (zH P) (.node (aY P) .nil .nil) (.node (aY P) .nil .nil)))) (.node (uN P) (.node (xY P) (.node (xN P) (.node (zu P) .nil .nil) (.node (aY P) .nil .nil)) (.node (cK P) (.node (sU P) .nil .nil) (.node (wg P) .nil .nil))) (.node (xS P) (.node (zM P) (.node (aY P) .nil .nil) (.node (wo P) .nil .nil)) (.node (aY P) (.node (cK P) .nil .nil) (.node (cK P) .nil .nil))))))))
noncomputable abbrev hS5 (w:World) (os:gY):SharedT:=⟨hT5 w.params,270,({ }),⟨[]⟩,({ }),539,os⟩
noncomputable def hT6 (P:ar):pM:=(.node (vk P) (.node (vj P) (.node (Ad P) (.node (vf P) (.node (Dz P) (.node (aY P) (.node (xR P) (.node (CG P) (.node (Ag P) .nil .nil) .nil) (.node (wD P) .nil .nil)) (.node (xG P) (.node (cK P) (.node (aY P) .nil .nil) .nil) (.node (wn P) .nil .nil))) (.node (aY P) (.node (aY P) (.node (zt P) (.node (cK P) .nil .nil) .nil) (.node (Ao P) .nil .nil)) (.node (zK P) (.node (sR P) .nil .nil) (.node (aY P) .nil .nil)))) (.node (sT P) (.node (uJ P) (.node (aY P) (.node (zA P) (.node (aY P) .nil .nil) .nil) (.node (aY P) .nil .nil)) (.node (kz P) (.node (sX P) .nil .nil) (.node (Ak P) .nil .nil))) (.node (aY P) (.node (zN P) (.node (aY P) (.node (zZ P) .nil .nil) .nil) (.node (wt P) .nil .nil)) (.node (aY P) (.node (cK P) .nil .nil) (.node (cK P) .nil .nil))))) (.node (aY P) (.node (cK P) (.node (aY P) (.node (aY P) (.node (cK P) (.node (cK P) .nil .nil) .nil) (.node (wB P) .nil .nil)) (.node (zL P) (.node (aY P) .nil .nil) (.node (wm P) .nil .nil))) (.node (xW P) (.node (aY P) (.node (aY P) (.node (Ab P) .nil .nil) .nil) (.node (cK P) .nil .nil)) (.node (zI P) (.node (sN P) .nil .nil) (.node (Ai P) .nil .nil)))) (.node (uO P) (.node (aY P) (.node (zP P) (.node (zv P) (.node (Ae P) .nil .nil) .nil) (.node (aY P) .nil .nil)) (.node (CK P) (.node (aY P) .nil .nil) (.node (cK P) .nil .nil))) (.node (aY P) (.node (cK P) (.node (CC P) (.node (zX P) .nil .nil) .nil) (.node (wp P) .nil .nil)) (.node (aY P) (.node (wF P) .nil .nil) (.node (wb P) .nil .nil)))))) (.node (vh P) (.node (u8 P) (.node (EA P) (.node (uM P) (.node (kz P) (.node (zC P) (.node (v7 P) .nil .nil) .nil) (.node (Aq P) .nil .nil)) (.node (aY P) (.node (s0 P) (.node (zV P) .nil .nil) .nil) (.node (cK P) .nil .nil))) (.node (uH P) (.node (xM P) (.node (cK P) (.node (aY P) .nil .nil) .nil) (.node (wv P) .nil .nil)) (.node (CI P) (.node (sP P) .nil .nil) (.node (wf P) .nil .nil)))) (.node (sM P) (.node (kz P) (.node (xO P) (.node (aY P) (.node (v4 P) .nil .nil) .nil) (.node (wz P) .nil .nil)) (.node (aY P) (.node (cK P) .nil .nil) (.node (wj P) .nil .nil))) (.node (xU P) (.node (xI P) (.node (zp P) (.node (DB P) .nil .nil) .nil) (.node (aY P) .nil .nil)) (.node (zG P) (.node (aY P) .nil .nil) (.node (aY P) .nil .nil))))) (.node (CO P) (.node (uQ P) (.node (sK P) (.node (zS P) (.node (aY P) (.node (v6 P) .nil .nil) .nil) (.node (cK P) .nil .nil)) (.node (xD P) (.node (wK P) .nil .nil) (.node (aY P) .nil .nil))) (.node (kz P) (.node (xK P) (.node (zr P) (.node (aY P) .nil .nil) .nil) (.node (aY P) .nil .nil)) (.node (cK P) (.node (wH P) .nil .nil) (.node (wd P) .nil .nil)))) (.node (kz P) (.node (xZ P) (.node (cK P) (.node (CE P) (.node (v0 P) .nil .nil) .nil) (.node (wx P) .nil .nil)) (.node (aY P) (.node (sV P) .nil .nil) (.node (wh P) .nil .nil))) (.node (uF P) (.node (aY P) (.node (zn P) (.node (cK P) .nil .nil) .nil) (.node (Am P) .nil .nil)) (.node (zE P) (.node (aY P) .nil .nil) (.node (aY P) .nil .nil))))))) (.node (p4 P) (.node (vi P) (.node (ve P) (.node (kz P) (.node (cK P) (.node (gA P) (.node (zD P) (.node (v8 P) .nil .nil) .nil) (.node (aY P) .nil .nil)) (.node (xF P) (.node (wL P) (.node (DA P) .nil .nil) .nil) (.node (aY P) .nil .nil))) (.node (uI P) (.node (zO P) (.node (aY P) (.node (Ac P) .nil .nil) .nil) (.node (ww P) .nil .nil)) (.node (aY P) (.node (sQ P) .nil .nil) (.node (cK P) .nil .nil)))) (.node (xQ P) (.node (gA P) (.node (xP P) (.node (zw P) (.node (cK P) .nil .nil) .nil) (.node (Ap P) .nil .nil)) (.node (CM P) (.node (aY P) .nil .nil) (.node (wk P) .nil .nil))) (.node (cK P) (.node (xJ P) (.node (cK P) (.node (aY P) .nil .nil) .nil) (.node (wq P) .nil .nil)) (.node (CH P) (.node (wG P) .nil .nil) (.node (wc P) .nil .nil))))) (.node (DD P) (.node (Ez P) (.node (sL P) (.node (cK P) (.node (zB P) (.node (Af P) .nil .nil) .nil) (.node (aY P) .nil .nil)) (.node (xE P) (.node (cK P) .nil .nil) (.node (wl P) .nil .nil))) (.node (gA P) (.node (cK P) (.node (CD P) (.node (Aa P) .nil .nil) .nil) (.node (wu P) .nil .nil)) (.node (aY P) (.node (wI P) .nil .nil) (.node (we P) .nil .nil)))) (.node (gA P) (.node (cK P) (.node (aY P) (.node (aY P) (.node (v3 P) .nil .nil) .nil) (.node (cK P) .nil .nil)) (.node (CJ P) (.node (wJ P) .nil .nil) (.node (Aj P) .nil .nil))) (.node (uG P) (.node (xH P) (.node (zo P) (.node (aY P) .nil .nil) .nil) (.node (aY P) .nil .nil)) (.node (cK P) (.node (wE P) .nil .nil) (.node (wa P) .nil .nil)))))) (.node (vg P) (.node (pH P) (.node (aY P) (.node (uL P) (.node (zT P) (.node (aY P) (.node (aY P) .nil .nil) .nil) (.node (wC P) .nil .nil)) (.node (cK P) (.node (sZ P) (.node (zU P) .nil .nil) .nil) (.node (Al P) .nil .nil))) (.node (xX P) (.node (xL P) (.node (zs P) (.node (DC P) .nil .nil) .nil) (.node (aY P) .nil .nil)) (.node (zJ P) (.node (sO P) .nil .nil) (.node (aY P) .nil .nil)))) (.node (uP P) (.node (x6 P) (.node (zQ P) (.node (cK P) (.node (aY P) .nil .nil) .nil) (.node (wy P) .nil .nil)) (.node (CL P) (.node (sW P) .nil .nil) (.node (aY P) .nil .nil))) (.node (xT P) (.node (aY P) (.node (aY P) (.node (zY P) .nil .nil) .nil) (.node (cK P) .nil .nil)) (.node (zF P) (.node (Ar P) .nil .nil) (.node (Ah P) .nil .nil))))) (.node (CN P) (.node (aY P) (.node (uK P) (.node (zR P) (.node (CF P) (.node (v5 P) .nil .nil) .nil) (.node (wA P) .nil .nil)) (.node (aY P) (.node (sY P) .nil .nil) (.node (cK P) .nil .nil))) (.node (xV P) (.node (aY P) (.node (zq P) (.node (cK P) .nil .nil) .nil) (.node (An P) .nil .nil)) (.node (zH P) (.node (aY P) .nil .nil) (.node (aY P) .nil .nil)))) (.node (uN P) (.node (xY P) (.node (xN P) (.node (zu P) (.node (aY P) .nil .nil) .nil) (.node (aY P) .nil .nil)) (.node (cK P) (.node (sU P) .nil .nil) (.node (wg P) .nil .nil))) (.node (xS P) (.node (zM P) (.node (aY P) (.node (zW P) .nil .nil) .nil) (.node (wo P) .nil .nil)) (.node (aY P) (.node (cK P) .nil .nil) (.node (cK P) .nil .nil))))))))
noncomputable abbrev hS6 (w:World) (os:gY):SharedT:=⟨hT6 w.params,291,({ }),⟨[]⟩,({ }),581,os⟩
noncomputable def As (P:ar):Heap:=⟨⟨vk P::vj P::p4 P::Ad P::vi P::vh P::vg P::vf P::ve P::u8 P::pH P::aY P::DD P::CO P::CN P::Dz P::kz P::EA P::aY P::cK P::Ez P::uQ P::aY P::sT P::xQ P::sM P::uP P::uO P::gA P::kz P::uN P::aY P::cK P::uM P::uL P::aY P::sL P::sK P::uK P::uJ P::gA P::kz P::x6 P::aY P::cK P::xZ P::xY P::aY P::uI P::uH P::xX P::xW P::gA P::kz P::xV P::aY P::cK P::xU P::xT P::aY P::uG P::uF P::xS P::xR P::gA P::kz P::zT P::aY P::cK P::zS P::zR P::aY P::xP P::xO P::zQ P::zP P::aY P::cK P::xN P::aY P::zO P::xM P::xL P::aY P::cK P::xK P::aY P::zN P::xJ P::xI P::aY P::cK P::xH P::aY P::zM P::xG P::xF P::aY P::cK P::zL P::xE P::xD P::aY P::kz P::CM P::aY P::CL P::CK P::CJ P::aY P::cK P::zK P::aY P::CI P::zJ P::zI P::aY P::cK P::zH P::aY P::CH P::zG P::zF P::aY P::cK P::zE P::aY P::CG P::zD P::zC P::aY P::cK P::zB P::aY P::CF P::zA P::zw P::aY P::cK P::zv P::aY P::CE P::zu P::zt P::aY P::cK P::zs P::aY P::CD P::zr P::zq P::aY P::cK P::zp P::aY P::CC P::zo P::zn P::aY P::cK P::wL P::s0 P::sZ P::aY P::cK P::wK P::sY P::sX P::aY P::cK P::sW P::aY P::wJ P::sV P::sU P::sR P::sQ P::sP P::sO P::sN P::wI P::wH P::aY P::cK P::wG P::aY P::Ar P::wF P::wE P::aY P::cK P::wD P::aY P::Aq P::wC P::wB P::aY P::cK P::wA P::aY P::Ap P::wz P::wy P::aY P::cK P::wx P::aY P::Ao P::ww P::wv P::aY P::cK P::wu P::aY P::An P::wt P::wq P::aY P::cK P::wp P::aY P::Am P::wo P::wn P::aY P::cK P::Al P::wm P::wl P::aY P::cK P::Ak P::wk P::wj P::aY P::cK P::Aj P::wh P::wg P::aY P::cK P::wf P::aY P::Ai P::we P::wd P::aY P::cK P::wc P::aY P::Ah P::wb P::wa P::aY P::cK P::Ag P::v8 P::v7 P::aY P::cK P::Af P::v6 P::v5 P::aY P::cK P::v4 P::aY P::Ae P::v3 P::v0 P::aY P::cK P::Ac P::aY P::DC P::Ab P::Aa P::aY P::cK P::zZ P::aY P::DB P::zY P::zX P::aY P::cK P::zW P::aY P::DA P::zV P::zU P::[]⟩,({ })⟩
noncomputable abbrev pA:Option Value:=some (aZ 6)
theorem Eu (w:World) (os:gY):topGo jD eg w 11 pA 12 ⟨Dd w.params,⟨[]⟩,boot_drawn,boot_toks,os⟩ (topStub eg)=some (⟨hHa w.params,⟨[]⟩,({ }),187,os⟩,⟨denote jD hC,hC,({ line:=0,col:=0,endLine:=0,endCol:=0 }:Pos),hB⟩):=by rw [PySem.W.Fast.te15667345088766844465,bC,PySem.W.Fast.te11892475500146522536];kernel_rfl
theorem hblk (w:World) (os:gY):segRun jD eg w 11 pA 1 1 ⟨hHa w.params,⟨[]⟩,({ }),187,os⟩ (blockOf Et hE hC ({ line:=0,col:=0,endLine:=0,endCol:=0 }:Pos) hB)=some (Bx,(hS0 w os).abs,hC,({ line:=0,col:=0,endLine:=0,endCol:=0 }:Pos)):=by rw [PySem.W.Fast.te14374325043358763698,bC];kernel_rfl
theorem hp0 (w:World) (os:gY):segRunT jD eg w 11 pA 1 409 (hS0 w os) (piecesOf hg0 hE hC ({ line:=0,col:=0,endLine:=0,endCol:=0 }:Pos) hB)=some (Bx,hS1 w os,hC,({ line:=4,col:=0,endLine:=5,endCol:=8 }:Pos)):=by rw [cL,bC];kernel_rfl
theorem hp1 (w:World) (os:gY):segRunT jD eg w 11 pA 1 427 (hS1 w os) (piecesOf hg1 hE hC ({ line:=4,col:=0,endLine:=5,endCol:=8 }:Pos) hB)=some (Bx,hS2 w os,hC,({ line:=8,col:=0,endLine:=9,endCol:=8 }:Pos)):=by rw [cL,bC];kernel_rfl
theorem Fl (w:World) (os:gY):segRunT jD eg w 11 pA 1 366 (hS2 w os) (piecesOf hg2 hE hC ({ line:=8,col:=0,endLine:=9,endCol:=8 }:Pos) hB)=some (Bx,hS3 w os,hC,({ line:=50,col:=0,endLine:=50,endCol:=8 }:Pos)):=by rw [cL,bC];kernel_rfl
theorem hp3 (w:World) (os:gY):segRunT jD eg w 11 pA 1 522 (hS3 w os) (piecesOf hg3 hE hC ({ line:=50,col:=0,endLine:=50,endCol:=8 }:Pos) hB)=some (Bx,hS4 w os,hC,({ line:=51,col:=0,endLine:=133,endCol:=19 }:Pos)):=by rw [cL,bC];kernel_rfl
theorem hp4 (w:World) (os:gY):segRunT jD eg w 11 pA 1 420 (hS4 w os) (piecesOf hg4 hE hC ({ line:=51,col:=0,endLine:=133,endCol:=19 }:Pos) hB)=some (Bx,hS5 w os,hC,({ line:=244,col:=0,endLine:=248,endCol:=15 }:Pos)):=by rw [cL,bC];kernel_rfl
theorem hp5 (w:World) (os:gY):segRunT jD eg w 11 pA 1 109 (hS5 w os) (piecesOf hg5 hE hC ({ line:=244,col:=0,endLine:=248,endCol:=15 }:Pos) hB)=some (Bx,hS6 w os,hC,({ line:=269,col:=0,endLine:=296,endCol:=92 }:Pos)):=by rw [cL,bC];kernel_rfl
theorem CA (w:World) (os:gY):topRun jD eg w 11 pA 2 (hS6 w os).abs (restOf hs6 hE hC ({ line:=269,col:=0,endLine:=296,endCol:=92 }:Pos) hB)=some ⟨As w.params,⟨[]⟩,({ }),581,os⟩:=by rw [PySem.W.Fast.te14082659384304107361,bC];kernel_rfl
theorem hrun (w:World) (os:gY):topRun jD eg w 11 pA (12+(1+(409+(427+(366+(522+(420+(109+2)))))))) ⟨Dd w.params,⟨[]⟩,boot_drawn,boot_toks,os⟩ (topStub eg)=some ⟨As w.params,⟨[]⟩,({ }),581,os⟩:=go_top (Eu w os) (piece_block (hblk w os) (piece_app (segRun_of (hp0 w os)) (piece_app (segRun_of (hp1 w os)) (piece_app (segRun_of (Fl w os)) (piece_app (segRun_of (hp3 w os)) (piece_app (segRun_of (hp4 w os)) (piece_app (segRun_of (hp5 w os)) (CA w os))))))))
noncomputable abbrev has:List Addr:=[nat_lit 2,nat_lit 3,nat_lit 15,nat_lit 22,nat_lit 23,nat_lit 24,nat_lit 25,nat_lit 28,nat_lit 35,nat_lit 36,nat_lit 37,nat_lit 40,nat_lit 47,nat_lit 48,nat_lit 49,nat_lit 52,nat_lit 59,nat_lit 60,nat_lit 61,nat_lit 64,nat_lit 71,nat_lit 72,nat_lit 73,nat_lit 76,nat_lit 78,nat_lit 79,nat_lit 81,nat_lit 82,nat_lit 83,nat_lit 85,nat_lit 86,nat_lit 88,nat_lit 89,nat_lit 90,nat_lit 92,nat_lit 93,nat_lit 95,nat_lit 96,nat_lit 97,nat_lit 100,nat_lit 101,nat_lit 109,nat_lit 111,nat_lit 112,nat_lit 114,nat_lit 115,nat_lit 116,nat_lit 118,nat_lit 119,nat_lit 121,nat_lit 122,nat_lit 123,nat_lit 125,nat_lit 126,nat_lit 128,nat_lit 129,nat_lit 130,nat_lit 132,nat_lit 133,nat_lit 135,nat_lit 136,nat_lit 137,nat_lit 139,nat_lit 140,nat_lit 142,nat_lit 143,nat_lit 144,nat_lit 146,nat_lit 147,nat_lit 149,nat_lit 150,nat_lit 151,nat_lit 153,nat_lit 154,nat_lit 156,nat_lit 157,nat_lit 158,nat_lit 161,nat_lit 162,nat_lit 163,nat_lit 166,nat_lit 167,nat_lit 168,nat_lit 170,nat_lit 171,nat_lit 173,nat_lit 174,nat_lit 175,nat_lit 176,nat_lit 177,nat_lit 178,nat_lit 179,nat_lit 182,nat_lit 184,nat_lit 185,nat_lit 187,nat_lit 188,nat_lit 189,nat_lit 191,nat_lit 192,nat_lit 194,nat_lit 195,nat_lit 196,nat_lit 198,nat_lit 199,nat_lit 201,nat_lit 202,nat_lit 203,nat_lit 205,nat_lit 206,nat_lit 208,nat_lit 209,nat_lit 210,nat_lit 212,nat_lit 213,nat_lit 215,nat_lit 216,nat_lit 217,nat_lit 219,nat_lit 220,nat_lit 222,nat_lit 223,nat_lit 224,nat_lit 227,nat_lit 228,nat_lit 229,nat_lit 232,nat_lit 233,nat_lit 234,nat_lit 237,nat_lit 238,nat_lit 239,nat_lit 241,nat_lit 242,nat_lit 244,nat_lit 245,nat_lit 246,nat_lit 248,nat_lit 249,nat_lit 251,nat_lit 252,nat_lit 253,nat_lit 256,nat_lit 257,nat_lit 258,nat_lit 261,nat_lit 262,nat_lit 263,nat_lit 265,nat_lit 266,nat_lit 268,nat_lit 269,nat_lit 270,nat_lit 272,nat_lit 273,nat_lit 275,nat_lit 276,nat_lit 277,nat_lit 279,nat_lit 280,nat_lit 282,nat_lit 283,nat_lit 284,nat_lit 286,nat_lit 287,nat_lit 289,nat_lit 290]
noncomputable def hK (P:ar):Frag:=(nat_lit 2,p4 P)::(nat_lit 3,Ad P)::(nat_lit 15,Dz P)::(nat_lit 22,aY P)::(nat_lit 23,sT P)::(nat_lit 24,xQ P)::(nat_lit 25,sM P)::(nat_lit 28,gA P)::(nat_lit 35,aY P)::(nat_lit 36,sL P)::(nat_lit 37,sK P)::(nat_lit 40,gA P)::(nat_lit 47,aY P)::(nat_lit 48,uI P)::(nat_lit 49,uH P)::(nat_lit 52,gA P)::(nat_lit 59,aY P)::(nat_lit 60,uG P)::(nat_lit 61,uF P)::(nat_lit 64,gA P)::(nat_lit 71,aY P)::(nat_lit 72,xP P)::(nat_lit 73,xO P)::(nat_lit 76,aY P)::(nat_lit 78,xN P)::(nat_lit 79,aY P)::(nat_lit 81,xM P)::(nat_lit 82,xL P)::(nat_lit 83,aY P)::(nat_lit 85,xK P)::(nat_lit 86,aY P)::(nat_lit 88,xJ P)::(nat_lit 89,xI P)::(nat_lit 90,aY P)::(nat_lit 92,xH P)::(nat_lit 93,aY P)::(nat_lit 95,xG P)::(nat_lit 96,xF P)::(nat_lit 97,aY P)::(nat_lit 100,xE P)::(nat_lit 101,xD P)::(nat_lit 109,aY P)::(nat_lit 111,zK P)::(nat_lit 112,aY P)::(nat_lit 114,zJ P)::(nat_lit 115,zI P)::(nat_lit 116,aY P)::(nat_lit 118,zH P)::(nat_lit 119,aY P)::(nat_lit 121,zG P)::(nat_lit 122,zF P)::(nat_lit 123,aY P)::(nat_lit 125,zE P)::(nat_lit 126,aY P)::(nat_lit 128,zD P)::(nat_lit 129,zC P)::(nat_lit 130,aY P)::(nat_lit 132,zB P)::(nat_lit 133,aY P)::(nat_lit 135,zA P)::(nat_lit 136,zw P)::(nat_lit 137,aY P)::(nat_lit 139,zv P)::(nat_lit 140,aY P)::(nat_lit 142,zu P)::(nat_lit 143,zt P)::(nat_lit 144,aY P)::(nat_lit 146,zs P)::(nat_lit 147,aY P)::(nat_lit 149,zr P)::(nat_lit 150,zq P)::(nat_lit 151,aY P)::(nat_lit 153,zp P)::(nat_lit 154,aY P)::(nat_lit 156,zo P)::(nat_lit 157,zn P)::(nat_lit 158,aY P)::(nat_lit 161,s0 P)::(nat_lit 162,sZ P)::(nat_lit 163,aY P)::(nat_lit 166,sY P)::(nat_lit 167,sX P)::(nat_lit 168,aY P)::(nat_lit 170,sW P)::(nat_lit 171,aY P)::(nat_lit 173,sV P)::(nat_lit 174,sU P)::(nat_lit 175,sR P)::(nat_lit 176,sQ P)::(nat_lit 177,sP P)::(nat_lit 178,sO P)::(nat_lit 179,sN P)::(nat_lit 182,aY P)::(nat_lit 184,wG P)::(nat_lit 185,aY P)::(nat_lit 187,wF P)::(nat_lit 188,wE P)::(nat_lit 189,aY P)::(nat_lit 191,wD P)::(nat_lit 192,aY P)::(nat_lit 194,wC P)::(nat_lit 195,wB P)::(nat_lit 196,aY P)::(nat_lit 198,wA P)::(nat_lit 199,aY P)::(nat_lit 201,wz P)::(nat_lit 202,wy P)::(nat_lit 203,aY P)::(nat_lit 205,wx P)::(nat_lit 206,aY P)::(nat_lit 208,ww P)::(nat_lit 209,wv P)::(nat_lit 210,aY P)::(nat_lit 212,wu P)::(nat_lit 213,aY P)::(nat_lit 215,wt P)::(nat_lit 216,wq P)::(nat_lit 217,aY P)::(nat_lit 219,wp P)::(nat_lit 220,aY P)::(nat_lit 222,wo P)::(nat_lit 223,wn P)::(nat_lit 224,aY P)::(nat_lit 227,wm P)::(nat_lit 228,wl P)::(nat_lit 229,aY P)::(nat_lit 232,wk P)::(nat_lit 233,wj P)::(nat_lit 234,aY P)::(nat_lit 237,wh P)::(nat_lit 238,wg P)::(nat_lit 239,aY P)::(nat_lit 241,wf P)::(nat_lit 242,aY P)::(nat_lit 244,we P)::(nat_lit 245,wd P)::(nat_lit 246,aY P)::(nat_lit 248,wc P)::(nat_lit 249,aY P)::(nat_lit 251,wb P)::(nat_lit 252,wa P)::(nat_lit 253,aY P)::(nat_lit 256,v8 P)::(nat_lit 257,v7 P)::(nat_lit 258,aY P)::(nat_lit 261,v6 P)::(nat_lit 262,v5 P)::(nat_lit 263,aY P)::(nat_lit 265,v4 P)::(nat_lit 266,aY P)::(nat_lit 268,v3 P)::(nat_lit 269,v0 P)::(nat_lit 270,aY P)::(nat_lit 272,Ac P)::(nat_lit 273,aY P)::(nat_lit 275,Ab P)::(nat_lit 276,Aa P)::(nat_lit 277,aY P)::(nat_lit 279,zZ P)::(nat_lit 280,aY P)::(nat_lit 282,zY P)::(nat_lit 283,zX P)::(nat_lit 284,aY P)::(nat_lit 286,zW P)::(nat_lit 287,aY P)::(nat_lit 289,zV P)::(nat_lit 290,zU P)::[]
theorem Ey (P:ar):has=(hK P).map (·.1):=by kernel_rfl
noncomputable abbrev hH:Hook:=kHook hK has Ey
noncomputable abbrev hX (s:az):Bool:=xlAt hq [] s && recOk (RowW.records PySem.Challenge.rw_uf060009_11.row.toRowW) s
theorem hsize (w:World):((Dd w.params).isNs bk && (⟨[]⟩:Array GenState).size == 0,(Dd w.params).objs.size,(Dd w.params).nsMap bk "__annotations__")=(true,11,pA):=by kernel_rfl
theorem Ev (w:World):(fun os=>((staticsOk (importedModules eg.main.body) (Dd w.params) (As w.params) && namesBound eg (As w.params) && gensDone ⟨As w.params,⟨[]⟩,({ }),581,os⟩ && laidKept (Dd w.params) (As w.params)),openSeen hq [] (importedModules eg.main.body) hX true ⟨As w.params,⟨[]⟩,({ }),581,os⟩,hH.obs ⟨As w.params,⟨[]⟩,({ }),581,os⟩))=fun ux=>(true,openGood hq [],hH.val w):=by rw [PySem.W.Fast.te5923862056798008813,PySem.W.Fast.te4187177175401517315];kernel_rfl
theorem hleft:LeftO eg hq [] hX hH.obs hH.val 4620:=LeftO.of_pieces (boot_open (by kernel_rfl) (by decide) (fun s=>by kernel_rfl)) hsize hrun (by decide) Ev
end
section
open PySem PySem.W PyProof.Rows PySem.Calls
set_option autoImplicit false
set_option linter.unusedVariables false
inductive AV where
 |none|bool (b:Bool)|int (i:Int)|str (x:Str)|tup (l:List AV)|ref (a:Addr)|raw (v:Value)
mutual
noncomputable def VR (h:Heap):AV→Value→Prop
 | .none,v=>v = .none
 | .bool b,v=>v = .bool b
 | .int i,v=>∃ t,v = .int i t
 | .str x,v=>∃ t,v = .str x t
 | .ref a,v=>v = .ref a
 | .raw u,v=>v=u
 | .tup l,v=>∃ a vs,v = .ref a∧h.TupAt a vs∧iM h l vs
noncomputable def iM (h:Heap):List AV→List Value→Prop
 |[],vs=>vs=[]
 |x::l,vs=>∃ v r,vs=v::r∧VR h x v∧iM h l r
end
noncomputable def VM (h h':Heap):Prop:=∀ b o xs n,h.get? b=some o→o.cls = .type "tuple"→o.data = .seq xs n→∃ sl,h'.get? b=some { o with slots:=sl }
theorem VM.refl (h:Heap):VM h h:=fun ux o ux ux e ux ux=>⟨o.slots,e⟩
theorem VM.trans {h₁ h₂ h₃:Heap} (a:VM h₁ h₂) (b:VM h₂ h₃):VM h₁ h₃:=fun x o xs n e c d=>let ⟨sl,e'⟩:=a x o xs n e c d;let ⟨sl',e''⟩:=b x _ xs n e' c d;⟨sl',e''⟩
theorem VM.of_keeps {h h':Heap} (k:∀ b o,h.get? b=some o→h'.get? b=some o):VM h h':=fun b o ux ux e ux ux=>⟨o.slots,k b o e⟩
theorem VM.of_slots {h h':Heap} (k:h.UpToSlots h'):VM h h':=fun b o ux ux e ux d=>k b o e fun vs q=>by rw [d] at q;cases q
mutual
theorem VR.mono {h h':Heap} (k:VM h h'):∀ (a:AV) {v:Value},VR h a v→VR h' a v
 | .none,_,x=>x
 | .bool _,_,x=>x
 | .int _,_,x=>x
 | .str _,_,x=>x
 | .ref _,_,x=>x
 | .raw _,_,x=>x
 | .tup l,_,⟨a,vs,e,⟨o,n,h1,h2,h3⟩,r⟩=>let ⟨sl,h1'⟩:=k a o _ n h1 h2 h3;⟨a,vs,e,⟨_,n,h1',h2,h3⟩,iM.mono k l r⟩
theorem iM.mono {h h':Heap} (k:VM h h'):∀ (l:List AV) {vs:List Value},iM h l vs→iM h' l vs
 |[],_,x=>x
 |a::l,_,⟨v,r,e,x,y⟩=>⟨v,r,e,VR.mono k a x,iM.mono k l y⟩
end
theorem iM.length {h:Heap}:∀ {l:List AV} {vs:List Value},iM h l vs→vs.length=l.length
 |[],_,e=>by rw [show _=[] from e];rfl
 |_::_,_,⟨_,_,e,_,y⟩=>by rw [e,bj,bj,y.length]
theorem iM.get {h:Heap}:∀ {l:List AV} {vs:List Value},iM h l vs→∀ {i:Nat} {a:AV},l[i]?=some a→∃ v,vs[i]?=some v∧VR h a v
 |[],_,_,_,_,e=>by simp at e
 |x::l,_,⟨v,r,rfl,p,q⟩,0,a,e=>by simp at e;subst e;exact ⟨v,rfl,p⟩
 |x::l,_,⟨v,r,rfl,p,q⟩,i+1,a,e=>by
  rw [List.getElem?_cons_succ] at e
  obtain ⟨u,h1,h2⟩:=q.get e
  exact ⟨u,by rw [List.getElem?_cons_succ];exact h1,h2⟩
theorem iM.snoc {h:Heap}:∀ {l:List AV} {vs:List Value} {a:AV} {v:Value},iM h l vs→VR h a v→iM h (l++[a]) (vs++[v])
 |[],_,_,v,e,x=>by rw [show _=[] from e];exact ⟨v,[],rfl,x,rfl⟩
 |_::_,_,_,_,⟨u,r,e,p,q⟩,x=>by rw [e];exact ⟨u,_,rfl,p,q.snoc x⟩
theorem iM.append {h:Heap}:∀ {l l':List AV} {vs vs':List Value},iM h l vs→iM h l' vs'→iM h (l++l') (vs++vs')
 |[],_,_,_,e,x=>by rw [show _=[] from e];exact x
 |_::_,_,_,_,⟨u,r,e,p,q⟩,x=>by rw [e];exact ⟨u,_,rfl,p,q.append x⟩
inductive AO where
 |list (l:List AV)
 |dict (d:List (Int×Int))
 |inst (C dx:Addr)
 |attrs (fs:List (Str×AV))
 |exc (C:Value)
 |range (a b c:Int)
 |ro (l:List AV)
 |any (T:aV→World→Heap→Addr→Obj→Prop)
noncomputable def AO.isRo:AO→Bool | .ro _=>true|_=>false
noncomputable def yG (P:ar) (h:Heap):List (Str×AV)→List rS→Prop
 |[],es=>es=[]
 |(x,a)::r,es=>∃ t v es',es=⟨yz.keyHash P x,.str x t,v⟩::es'∧VR h a v∧yG P h r es'
theorem yG.mono {P:ar} {h h':Heap} (k:VM h h'):∀ {fs:List (Str×AV)} {es:List rS},yG P h fs es→yG P h' fs es
 |[],_,e=>e
 |(_,a)::_,_,⟨t,v,es',e,x,y⟩=>⟨t,v,es',e,VR.mono k a x,y.mono k⟩
noncomputable def p8:List (Int×Int)→List (Int×Value)→Prop
 |[],kvs=>kvs=[]
 |(i,a)::r,kvs=>∃ t kvs',kvs=(i,.int a t)::kvs'∧p8 r kvs'
noncomputable def OR (af:aV) (w:World) (h:Heap) (a:Addr):AO→Prop
 | .list l=>∃ vs,h.PlainList a (List.toArray vs)∧iM h l vs
 | .dict d=>∃ kvs,h.DictOf (PySem.intKind af w) a kvs∧p8 d kvs∧(a == sysModules)=false
 | .inst C dx=>h.get? a=some (instObj C dx)
 | .attrs fs=>∃ es n,h.get? a=some (dictOf es n)∧yG w.params h fs es
 | .exc C=>∃ o vs,h.get? a=some o∧o.cls=C∧o.data = .fields vs
 | .range x y z=>∃ t u v,IsRange h a x y z t u v
 | .ro l=>∃ vs,h.IsList a (List.toArray vs)∧iM h l vs
 | .any T=>∃ o,h.get? a=some o∧(∀ xs n,o.cls = .type "tuple"→o.data ≠ .seq xs n)∧∀ h',VM h h'→T af w h' a o
theorem OR.at {af:aV} {w:World} {h h':Heap} {a:Addr} (k:VM h h') (e:∀ o,h.get? a=some o→h'.get? a=some o) {x:AO} (y:OR af w h a x):OR af w h' a x:=by
 cases x with
 |list l=>obtain ⟨vs,⟨n,p⟩,r⟩:=y;exact ⟨vs,⟨n,e _ p⟩,r.mono k⟩
 |dict d=>obtain ⟨kvs,⟨o,es,ep,ho,q⟩,r⟩:=y;exact ⟨kvs,⟨o,es,ep,e _ ho,q⟩,r⟩
 |inst C dx=>exact e _ y
 |attrs fs=>obtain ⟨es,n,p,q⟩:=y;exact ⟨es,n,e _ p,q.mono k⟩
 |exc C=>obtain ⟨o,vs,p,q⟩:=y;exact ⟨o,vs,e _ p,q⟩
 |range _ _ _=>obtain ⟨t,u,v,p⟩:=y;exact ⟨t,u,v,e _ p⟩
 |ro l=>obtain ⟨vs,⟨o,p,q⟩,r⟩:=y;exact ⟨vs,⟨o,e _ p,q⟩,r.mono k⟩
 |any T=>obtain ⟨o,p,q,r⟩:=y;exact ⟨o,e _ p,q,fun h'' k'=>r h'' (k.trans k')⟩
theorem OR.there {af:aV} {w:World} {h:Heap} {a:Addr} {x:AO} (y:OR af w h a x):∃ o,h.get? a=some o∧∀ xs n,o.cls = .type "tuple"→o.data ≠ .seq xs n:=by
 cases x with
 |list l=>obtain ⟨vs,⟨n,p⟩,r⟩:=y;exact ⟨_,p,by simp⟩
 |dict d=>obtain ⟨kvs,⟨o,es,ep,ho,q⟩,r⟩:=y;exact ⟨o,ho,by rw [q.1.1];simp⟩
 |inst C dx=>exact ⟨_,y,by simp⟩
 |attrs fs=>obtain ⟨es,n,p,q⟩:=y;exact ⟨_,p,by simp⟩
 |exc C=>obtain ⟨o,vs,p,q⟩:=y;exact ⟨o,p,by intro xs n _ e;rw [q.2] at e;cases e⟩
 |range _ _ _=>obtain ⟨t,u,v,p⟩:=y;exact ⟨_,p,by simp⟩
 |ro l=>obtain ⟨vs,⟨o,p,q,_⟩,r⟩:=y;exact ⟨o,p,by rw [q];simp⟩
 |any T=>obtain ⟨o,p,q,_⟩:=y;exact ⟨o,p,q⟩
structure AS where
 loc:Str→Option AV
 hp:Addr→Option AO
noncomputable def AS.set (σ:AS) (x:Str) (v:AV):AS:=⟨fun y=>if y=x then some v else σ.loc y,σ.hp⟩
noncomputable def AS.put (σ:AS) (a:Addr) (o:AO):AS:=⟨σ.loc,fun b=>if b=a then some o else σ.hp b⟩
noncomputable def AS.Le (σ' σ:AS):Prop:=(∀ x v,σ'.loc x=some v→σ.loc x=some v)∧∀ a o,σ'.hp a=some o→σ.hp a=some o
structure CX where
 A:dM
 env:Env
 fenv:Env
 outer:List Env
 base:Heap
 P:Addr→Obj→Prop
 N:Addr→(Str→Option Value)→Prop
 gens:Array GenState
 drawn:Drawn
 os:gY
noncomputable def ei (h:Heap) (env:Env) (x:Str) (v:Value):Prop:=
 match env.kindOf x with
 |some .local=>∃ m,h.Ns env.locals m∧m x=some v
 |some .cell=>∃ c o,env.cells.lookup x=some c∧h.get? c=some o∧o.data = .cell (some v)
 |some .free=>∃ c o,env.cells.lookup x=some c∧h.get? c=some o∧o.data = .cell (some v)
 |_=>False
noncomputable def CX.frames (cx:CX):List Addr:=(cx.fenv::cx.outer).filterMap (·.frame)
noncomputable def CX.own (cx:CX) (a:Addr):Prop:=a=cx.env.locals∨∃ x,cx.env.cells.lookup x=some a
structure R (af:aV) (w:World) (cx:CX) (σ:AS) (s:az):Prop where
 stay:cx.base.StaysIn s.heap
 ff:s.heap.FunFrames cx.base (cx.fenv::cx.outer)
 ns:∃ m,s.heap.Ns cx.env.locals m
 loc:∀ x v,σ.loc x=some v→∃ u,ei s.heap cx.env x u∧VR s.heap v u
 pr:∀ b o,cx.P b o→s.heap.get? b=some o∧b∉cx.frames
 pn:∀ b m,cx.N b m→s.heap.Ns b m∧b∈cx.frames
 ob:∀ a ao,σ.hp a=some ao→OR af w s.heap a ao∧(ao.isRo=false→cx.base.get? a=none)∧(∀ o,¬ cx.P a o)∧¬ cx.own a∧∀ e∈cx.fenv::cx.outer,e.frame≠some a
 own:∀ a,cx.own a→cx.base.get? a=none∧(∀ o,¬ cx.P a o)∧∀ m,¬ cx.N a m
 cel:∀ x c,cx.env.cells.lookup x=some c→c≠cx.env.locals∧(∃ o v,s.heap.get? c=some o∧o.data = .cell v)∧∀ e∈cx.fenv::cx.outer,e.frame≠some c
 oth:∀ e∈cx.outer,e.frame≠some cx.env.locals
 gens:s.gens=cx.gens
 drawn:s.drawn=cx.drawn
 os:s.os=cx.os
structure Glo (af:aV) (K:Frag) (base:Heap):Prop where
 KX:K.In base
 g:∃ mg,base.Ns bk mg
 b:∃ mb,base.Ns builtinsNs mb∧∀ x:Str,x≠"__name__"→mb x=fK x
 nolimit:base.NoLimit
 seer:base.NoSeer
 tree:af.given.tree=none
 top:∃ p loose mg mb,TopRead p loose mg mb base
 bm:∃ mg,base.Ns bk mg∧BMain base mg
structure Ok (af:aV) (K:Frag) (cx:CX) (sc:Scope) (n:Nat):Prop where
 glo:Glo af K cx.base
 fr:cx.A.frames=some (cx.fenv::cx.outer)
 scope:cx.env.scope=sc
 kind:sc.kind = .function
 frame:cx.env.frame=cx.fenv.frame
 glob:cx.env.globals=bk
 bi:cx.env.builtins=builtinsNs
 fgen:cx.fenv.scope.isGenerator=false
 fco:cx.fenv.scope.isCoroutine=false
 fglob:cx.fenv.globals=bk
 fbi:cx.fenv.builtins=builtinsNs
 fkind:cx.fenv.scope.kind = .function
 depth:cx.A.depth+4 * n+140<recursionLimit
 units:cx.A.units+16 * n+200<cLine
 inj:∀ x y c,cx.env.cells.lookup x=some c→cx.env.cells.lookup y=some c→x=y
 ck:∀ y c,cx.env.cells.lookup y=some c→cx.env.kindOf y=some .cell∨cx.env.kindOf y=some .free
 cc:∀ x,sc.names.lookup x=some .cell→(cx.env.cells.lookup x).isSome=true
noncomputable def ExSt (B:Heap) (L:Addr) (e:Addr) (C:Value) (h:Heap):Prop:=
 (∃ oe vs a0,h.get? e=some oe∧oe.cls=C∧oe.data = .fields vs∧vs[1]?=some .none∧vs[0]?=some a0) ∨
 (∃ a0,h.TracedW B e C a0)∨(∃ a0,h.TracedAtW B e C a0 (eG L))
noncomputable def F2 (h:Heap) (e:Addr):Prop:=∃ oe vs,h.get? e=some oe∧oe.data = .fields vs∧vs[2]?=some .none
structure ES (B:Heap) (L:Addr) (e:Addr) (C:Value) (h:Heap) (X:Prop):Prop where
 st:ExSt B L e C h
 ff:F2 h e∨X
 cn:C ≠ .none
structure XC (cx:CX) (h₀ h:Heap) (L e:Addr):Prop where
 fr:cx.fenv.frame=some L
 st:(et h₀ cx.frames).StaysIn h
 new:(et h₀ cx.frames).get? e=none
 ff:h.FunFrames (et h₀ cx.frames) (cx.fenv::cx.outer)
 up:h₀.UpToSlots h
inductive dU {α β:Type} (af:aV) (w:World) (rel:Heap→β→α→Prop) (cx:CX) (s:az) (Q:β→AS→Prop) (v:α) (s':az):Prop
 |mk (b:β) (σ':AS) (r:R af w cx σ' s') (hv:rel s'.heap b v) (m:VM s.heap s'.heap) (q:Q b σ'):dU af w rel cx s Q v s'
inductive dh (af:aV) (w:World) (cx:CX) (s:az) (E:Value→AS→Prop) (v:Value) (s':az):Prop
 |mk (e:Addr) (C:Value) (σ':AS) (s₀:az) (L:Addr) (hv:v = .ref e) (r:R af w cx σ' s₀) (hs:s'={ s₀ with heap:=s'.heap,toks:=s'.toks }) (x:XC cx s₀.heap s'.heap L e) (es:ES (et s₀.heap cx.frames) L e C s'.heap (∃ σ₁,E .none σ₁)) (m:VM s.heap s₀.heap) (q:E C σ'):dh af w cx s E v s'
theorem dU.use {af:aV} {w:World} {cx:CX} {α β:Type} {rel:Heap→β→α→Prop} {s s':az} {Q:β→AS→Prop} {v:α} {p:Prop} (h:dU af w rel cx s Q v s') (k:∀ b σ',R af w cx σ' s'→rel s'.heap b v→VM s.heap s'.heap→Q b σ'→p):p:=by
 cases h with
 |mk b σ' r hv m q=>exact k b σ' r hv m q
theorem dh.mono {af:aV} {w:World} {cx:CX} {s s₁:az} {E:Value→AS→Prop} {v:Value} {s':az} (vm:VM s.heap s₁.heap) (h:dh af w cx s₁ E v s'):dh af w cx s E v s':=
 let ⟨e,C,σ',s₀,L,a,b,c,d,f,g,i⟩:=h;⟨e,C,σ',s₀,L,a,b,c,d,f,vm.trans g,i⟩
noncomputable def Wp {α β:Type} (af:aV) (w:World) (rel:Heap→β→α→Prop) (cx:CX) (t:Sem α) (σ:AS) (Q:β→AS→Prop) (E:Value→AS→Prop):Prop:=
 ∀ s,R af w cx σ s→wpAny (model af w) cx.A t (dU af w rel cx s Q) (dh af w cx s E) s
noncomputable def BR (_:Heap) (b v:Bool):Prop:=b=v
noncomputable def UR (_:Heap) (_ _:Unit):Prop:=True
inductive AF where
 |next|brk|cont|ret (v:AV)
noncomputable def FR (h:Heap):AF→Flow→Prop
 | .next,f=>f = .next
 | .brk,f=>f = .brk
 | .cont,f=>f = .cont
 | .ret a,f=>∃ v,f = .ret v∧VR h a v
noncomputable abbrev bZ (af:aV) (w:World) (cx:CX) (e:Expr) (σ:AS) (Q:AV→AS→Prop) (E:Value→AS→Prop):Prop:=Wp af w VR cx (eval e cx.env) σ Q E
noncomputable abbrev og (af:aV) (w:World) (cx:CX) (e:Expr) (σ:AS) (Q:Bool→AS→Prop) (E:Value→AS→Prop):Prop:=Wp af w BR cx (isTrue e cx.env (eval e cx.env)) σ Q E
noncomputable abbrev jv (af:aV) (w:World) (cx:CX) (st:Stmt) (σ:AS) (Q:AF→AS→Prop) (E:Value→AS→Prop):Prop:=Wp af w FR cx (exec st cx.env) σ Q E
noncomputable abbrev cf (af:aV) (w:World) (cx:CX) (st:List Stmt) (σ:AS) (Q:AF→AS→Prop) (E:Value→AS→Prop):Prop:=Wp af w FR cx (execs st cx.env) σ Q E
noncomputable def Dl (af:aV) (w:World) (cx:CX) (t:Value→Sem Value) (a:AV) (σ:AS) (Q:AV→AS→Prop) (E:Value→AS→Prop):Prop:=
 ∀ s va,R af w cx σ s→VR s.heap a va→wpAny (model af w) cx.A (t va) (dU af w VR cx s Q) (dh af w cx s E) s
noncomputable def de (af:aV) (w:World) (cx:CX) (t:Value→Value→Sem Value) (a b:AV) (σ:AS) (Q:AV→AS→Prop) (E:Value→AS→Prop):Prop:=
 ∀ s va vb,R af w cx σ s→VR s.heap a va→VR s.heap b vb→wpAny (model af w) cx.A (t va vb) (dU af w VR cx s Q) (dh af w cx s E) s
noncomputable def Dk (af:aV) (w:World) (cx:CX) (t:Value→Value→Value→Sem Unit) (a b c:AV) (σ:AS) (Q:Unit→AS→Prop) (E:Value→AS→Prop):Prop:=
 ∀ s va vb vc,R af w cx σ s→VR s.heap a va→VR s.heap b vb→VR s.heap c vc→wpAny (model af w) cx.A (t va vb vc) (dU af w UR cx s Q) (dh af w cx s E) s
noncomputable def WSt (af:aV) (w:World) (cx:CX) (t:Value→Sem Unit) (a:AV) (σ:AS) (Q:Unit→AS→Prop) (E:Value→AS→Prop):Prop:=
 ∀ s va,R af w cx σ s→VR s.heap a va→wpAny (model af w) cx.A (t va) (dU af w UR cx s Q) (dh af w cx s E) s
structure Fx (af:aV) (K:Frag) (cx:CX) (sc:Scope) (n:Nat):Prop where
 ok:Ok af K cx sc n
 fe:cx.env=cx.fenv
 hh:cx.A.handled=none
noncomputable def iV (o:Obj):aV→World→Heap→Addr→Obj→Prop:=fun ux ux ux ux x=>x=o
noncomputable def pk:Scope:=fnS eg.main.body[32]?
noncomputable def po:List Stmt:=fnB eg.main.body[32]?
noncomputable def tO (af:aV) (w:World):Prop:=∀ (cx:CX) (σ:AS) (l:Addr) (ns:List Int),ns.length≤63→Fx af (hK w.params) cx pk 30→σ.loc (aa "_law_script")=some (.ref l)→σ.hp l=some (.ro (ns.map AV.int))→σ.hp 98=some (.any (iV (i8 #[])))→cf af w cx po σ (fun f σ'=>f = .ret (.bool true)∧∃ ps,σ'.hp 98=some (.any (iV (i8 ps)))) (fun ux ux=>False)
noncomputable def Dw:aV×World:=@ik _ ⟨(default,⟨fun ux ux=>0,{ strHash:=fun ux=>0,shareClass:=fun ux=>0,mergeTok:=id,idOf:=fun ux=>0,idOfShared:=fun ux ux=>0,followText:=fun ux=>false,idOfImm:=fun ux=>0 }⟩)⟩ fun x=>¬ tO x.1 x.2
noncomputable def af:aV:=Dw.1
noncomputable def w:World:=Dw.2
theorem En (h:tO af w) (p:aV) (v:World):tO p v:=eh fun n=>eX (p:=fun x:aV×World=>¬ tO x.1 x.2) ⟨(p,v),n⟩ h
end
open PySem PyProof.Rows
set_option autoImplicit false
noncomputable def eJ:Bool→Keyed→Array Keyed→Nat→Nat→Nat→StateT ah Sem (Option Nat):=sortPriv% PySem.Builtin.gallop
noncomputable def km:Array Keyed→Array Keyed→StateT ah Sem (Array Keyed):=sortPriv% PySem.Builtin.mergeLo
noncomputable def kq:Array Keyed→Array Keyed→StateT ah Sem (Array Keyed):=sortPriv% PySem.Builtin.mergeHi
noncomputable def eR:Nat→StateT ah Sem Unit:=sortPriv% PySem.Builtin.setMinGallop
theorem ni (g:Nat):eR g=modify fun s=>ah.mk' (kindOf s) (arrOf s) (br s) g (dD s):=rfl
noncomputable def rG (left:Bool) (key:Keyed) (arr:Array Keyed) (base i:Nat):StateT ah Sem (Option Bool):=do
 let x ← elem' arr (base+i)
 if left then lt' x key else return (← lt' key x).map (!·)
theorem sw (i:Nat):mergeAt' i=(do
 let s ← get
 let (some (sa,na,power),some (sb,nb,_)):=((br s)[i]?,(br s)[i+1]?)|unsupported "internal:list.sort.pending"
 set (nQ s (((br s).setIfInBounds i (sa,na+nb,power)).eraseIdxIfInBounds (i+1)))
 let some k ← eJ false (← elem' (arrOf s) sb) (arrOf s) sa na 0|return false
 let (sa,na):=(sa+k,na - k)
 if na == 0 then return true
 let some nb ← eJ true (← elem' (arrOf s) (sa+na - 1)) (arrOf s) sb nb (nb - 1)|return false
 if nb == 0 then return true
 let x:=(arrOf s).extract sa sb
 let y:=(arrOf s).extract sb (sb+nb)
 let merged ← if na≤nb then km x y else kq x y
 modify fun s=>setArr s (merged.toList.zipIdx.foldl (fun a (p,j)=>a.setIfInBounds (sa+j) p) (arrOf s))
 return (dD (← get)).isNone):=rfl
structure nN (af:aV) (w:World) (A:dM) (E:Value→az→Prop) (s:az) (kd:pR) (ok:Keyed→Prop) (L:Keyed→Keyed→Bool):Prop where
 lt:∀ (st:ah) (x y:Keyed) (Q:Option Bool→ah→Prop),ok x→ok y→kindOf st=kd→Q (some (L x y)) st→wpS (model af w) A E s (lt' x y) Q st
 asym:∀ x y,ok x→ok y→L x y=true→L y x=false
 neg:∀ x y z,ok x→ok y→ok z→L y x=false→L z y=false→L z x=false
noncomputable def RR (L:Keyed→Keyed→Bool) (T:Keyed→Keyed→Prop) (x y:Keyed):Prop:=L y x=false∧(L x y=true∨T x y)
noncomputable abbrev E7:=dM×(Value→az→Prop)×az×pR×(Keyed→Prop)×(Keyed→Keyed→Bool)×(Keyed→Keyed→Prop)×List Keyed
noncomputable def Bp (A:dM) (E:Value→az→Prop) (s:az) (kd:pR) (ok:Keyed→Prop) (L:Keyed→Keyed→Bool) (T:Keyed→Keyed→Prop) (a₀:List Keyed):Prop:=∀ (st:ah) (Q:Unit→ah→Prop),nN af w A E s kd ok L→kindOf st=kd→dD st=none→br st=#[]→(arrOf st).toList=a₀→(∀ x∈a₀,ok x)→a₀.Pairwise T→2≤a₀.length→(∀ st',dD st'=none→(arrOf st').toList.Perm a₀→(arrOf st').toList.Pairwise (RR L T)→Q () st')→wpS (model af w) A E s sortRuns' Q st
noncomputable def Bo (x:E7):Prop:=Bp x.1 x.2.1 x.2.2.1 x.2.2.2.1 x.2.2.2.2.1 x.2.2.2.2.2.1 x.2.2.2.2.2.2.1 x.2.2.2.2.2.2.2
noncomputable def r9:E7:=@ik _ ⟨(PySem.callerA,fun ux ux=>True,{},oneType',fun ux=>True,fun ux ux=>true,fun ux ux=>True,[])⟩ fun x=>¬ Bo x
noncomputable def A:dM:=r9.1
noncomputable def E:Value→az→Prop:=r9.2.1
noncomputable def s:az:=r9.2.2.1
noncomputable def kd:pR:=r9.2.2.2.1
noncomputable def ok:Keyed→Prop:=r9.2.2.2.2.1
noncomputable def L:Keyed→Keyed→Bool:=r9.2.2.2.2.2.1
noncomputable def T:Keyed→Keyed→Prop:=r9.2.2.2.2.2.2.1
noncomputable def jh:List Keyed:=r9.2.2.2.2.2.2.2
section
theorem oU {arr:Array Keyed} {i:Nat} {x:Keyed} {st:ah} {Q:Keyed→ah→Prop} (hx:arr[i]?=some x) (h:Q x st) :
  wpS (model af w) A E s (elem' arr i) Q st:=by
 rw [elem'_eq,hx];exact ec h
theorem cD {β:Type} {arr:Array Keyed} {i:Nat} {x:Keyed} {f:Keyed→StateT ah Sem β} {st:ah} {Q:β→ah→Prop} (hx:arr[i]?=some x) (h:wpS (model af w) A E s (f x) Q st):wpS (model af w) A E s (elem' arr i >>= f) Q st:=bF (oU hx h)
theorem iA {β:Type} {f:ah→StateT ah Sem β} {st:ah} {Q:β→ah→Prop} (h:wpS (model af w) A E s (f st) Q st):wpS (model af w) A E s (get >>= f) Q st:=bF (wpS_get h)
theorem kc {β:Type} {g:ah→ah} {f:PUnit→StateT ah Sem β} {st:ah} {Q:β→ah→Prop} (h:wpS (model af w) A E s (f ⟨⟩) Q (g st)):wpS (model af w) A E s (modify g >>= f) Q st:=bF (wpS_modify h)
theorem iv {β:Type} {tag:String} {f:Unit→StateT ah Sem β} {st:ah} {Q:β→ah→Prop} (h:wpS (model af w) A E s (f ()) Q st):wpS (model af w) A E s ((liftM (rule tag):StateT ah Sem Unit) >>= f) Q st:=bF (wpS_lift (rW ⟨rfl,h⟩))
theorem nN.ltB {β:Type} (hc:nN af w A E s kd ok L) {st:ah} {x y:Keyed} {f:Option Bool→StateT ah Sem β} {Q:β→ah→Prop} (ox:ok x) (oy:ok y) (hk:kindOf st=kd) (h:wpS (model af w) A E s (f (some (L x y))) Q st):wpS (model af w) A E s (lt' x y >>= f) Q st:=bF (hc.lt st x y _ ox oy hk h)
theorem uf (hc:nN af w A E s kd ok L) {left:Bool} {key x:Keyed} {arr:Array Keyed} {base i:Nat} {st:ah} {Q:Option Bool→ah→Prop}
  (hk:ok key) (hx:arr[base+i]?=some x) (ho:ok x) (hkd:kindOf st=kd) (h:Q (some (if left then L x key else !L key x)) st) :
  wpS (model af w) A E s (rG left key arr base i) Q st:=by
 unfold rG
 refine cD hx ?_
 cases left with
 |true=>exact hc.lt st x key Q ho hk hkd h
 |false=>exact bF (hc.lt st key x _ hk ho hkd (ec h))
theorem EZ {n m:Nat} (h:¬ (n == m)=true):n≠m:=fun e=>h (beq_iff_eq.mpr e)
noncomputable def lN {β:Type} (I Q:β→ah→Prop):ForInStep β→ah→Prop
 | .done c=>Q c
 | .yield c=>I c
theorem jl {β γ:Type} {n:Nat} {f:Nat→β→StateT ah Sem (ForInStep β)} {k:β→StateT ah Sem γ} (I:Nat→β→ah→Prop) (Q:β→ah→Prop) {c:β} {st:ah} {R:γ→ah→Prop} (init:I 0 c st) (step:∀ i c st,I i c st→wpS (model af w) A E s (f i c) (lN (I (i+1)) Q) st)
  (fin:∀ c st,I n c st→Q c st) (h:∀ c st,Q c st→wpS (model af w) A E s (k c) R st):wpS (model af w) A E s (forIn [0:n] c f >>= k) R st:=
 bF (wpS_mono (wpS_forRange I (fun i c st ux ux hi=>wpS_mono (step i c st hi) fun r st' h'=>by cases r <;> exact h') (fun c st hi=>fin c st (by rw [Nat.zero_max] at hi;exact hi)) init) h)
theorem b9 {β:Type} {I Q:β→ah→Prop} {c:β} {st:ah} (h:Q c st):wpS (model af w) A E s (pure (ForInStep.done c)) (lN I Q) st:=ec h
theorem cV {β:Type} {I Q:β→ah→Prop} {c:β} {st:ah} (h:I c st):wpS (model af w) A E s (pure (fS c)) (lN I Q) st:=ec h
theorem cN {α:Type} {c:Prop} [Decidable c] {x y:StateT ah Sem α} {Q:α→ah→Prop} {st:ah} (h1:c→wpS (model af w) A E s x Q st) (h0:¬ c→wpS (model af w) A E s y Q st):wpS (model af w) A E s (if c then x else y) Q st:=by
 split
 ·exact h1 (by assumption)
 ·exact h0 (by assumption)
theorem dN {α:Type} {n m:Nat} {x y:StateT ah Sem α} {Q:α→ah→Prop} {st:ah} (h1:n=m→wpS (model af w) A E s x Q st) (h0:n≠m→wpS (model af w) A E s y Q st):wpS (model af w) A E s (if (n == m)=true then x else y) Q st:=
 cN (fun q=>h1 (eq_of_beq q)) fun q=>h0 (EZ q)
noncomputable def DP (left:Bool) (key:Keyed) (arr:Array Keyed) (base n hint:Nat) (bey:Nat→Bool):Prop:=ok key→(∀ i,i<n→∃ x,arr[base+i]?=some x∧ok x∧(if left then L x key else !L key x)=bey i)→(∀ i j,i≤j→j<n→bey j=true→bey i=true)→hint<n →
 ∀ (st:ah) (Q:Option Nat→ah→Prop),kindOf st=kd→(∀ k,k≤n→(∀ i,i<k→bey i=true)→(∀ i,k≤i→i<n→bey i=false)→Q (some k) st)→wpS (model af w) A E s (eJ left key arr base n hint) Q st
noncomputable abbrev Fh:=Bool×Keyed×Array Keyed×Nat×Nat×Nat×(Nat→Bool)
noncomputable def GalP (x:Fh):Prop:=DP x.1 x.2.1 x.2.2.1 x.2.2.2.1 x.2.2.2.2.1 x.2.2.2.2.2.1 x.2.2.2.2.2.2
noncomputable def uR:Fh:=@ik _ ⟨(true,(.none,.none),#[],0,0,0,fun ux=>true)⟩ fun x=>¬ GalP x
noncomputable def gl:Bool:=uR.1
noncomputable def gk:Keyed:=uR.2.1
noncomputable def ga:Array Keyed:=uR.2.2.1
noncomputable def gb:Nat:=uR.2.2.2.1
noncomputable def gn:Nat:=uR.2.2.2.2.1
noncomputable def gh:Nat:=uR.2.2.2.2.2.1
noncomputable def gB:Nat→Bool:=uR.2.2.2.2.2.2
structure Gl:Prop where
 hc:nN af w A E s kd ok L
 hk:ok gk
 hx:∀ i,i<gn→∃ x,ga[gb+i]?=some x∧ok x∧(if gl then L x gk else !L gk x)=gB i
 mono:∀ i j,i≤j→j<gn→gB j=true→gB i=true
 hh:gh<gn
noncomputable abbrev GS:=Option (Option Nat)×Nat×Nat
noncomputable def Av (i:Nat):StateT ah Sem (Option Bool):=rG gl gk ga gb i
noncomputable def g3k (lo hi m:Nat) (r:Option Bool):StateT ah Sem (ForInStep GS):=do
 let some more:=r|pure (.done (some none,lo,hi))
 if more=true then pure (.yield (none,m+1,hi)) else pure (.yield (none,lo,m))
noncomputable def g3 (lo hi:Nat):StateT ah Sem (ForInStep GS):=if lo≥hi then pure (.done (none,lo,hi)) else Av (lo+(hi - lo) / 2) >>= g3k lo hi (lo+(hi - lo) / 2)
noncomputable def g3e (c:GS):StateT ah Sem (Option Nat):=bD (fun ux=>_) c.1 (fun r=>pure r) (fun ux=>pure (some c.2.2))
noncomputable def EC (lo hi:Nat):StateT ah Sem (Option Nat):=forIn [0:gn] ((none,lo,hi):GS) (fun ux c=>g3 c.2.1 c.2.2) >>= g3e
noncomputable def g1k (l o:Nat) (r:Option Bool):StateT ah Sem (ForInStep GS):=do
 let some more:=r|pure (.done (some none,l,o))
 if (!more)=true then pure (.done (none,l,o)) else pure (.yield (none,o,2 * o+1))
noncomputable def g1 (l o:Nat):StateT ah Sem (ForInStep GS):=if o≥gn - gh then pure (.done (none,l,o)) else Av (gh+o) >>= g1k l o
noncomputable def g1e (c:GS):StateT ah Sem (Option Nat):=bD (fun ux=>_) c.1 (fun r=>pure r) (fun ux=>EC (gh+c.2.1+1) (gh+min c.2.2 (gn - gh)))
noncomputable def g2k (l o:Nat) (r:Option Bool):StateT ah Sem (ForInStep GS):=do
 let some found:=r|pure (.done (some none,l,o))
 if found=true then pure (.done (none,l,o)) else pure (.yield (none,o,2 * o+1))
noncomputable def g2 (l o:Nat):StateT ah Sem (ForInStep GS):=if o≥gh+1 then pure (.done (none,l,o)) else Av (gh - o) >>= g2k l o
noncomputable def g2e (c:GS):StateT ah Sem (Option Nat):=bD (fun ux=>_) c.1 (fun r=>pure r) (fun ux=>EC (gh+1 - min c.2.2 (gh+1)) (gh - c.2.1))
noncomputable def g0k (r:Option Bool):StateT ah Sem (Option Nat):=do
 let some right:=r|pure none
 if right=true then forIn [0:gn] ((none,0,1):GS) (fun ux c=>g1 c.2.1 c.2.2) >>= g1e else forIn [0:gn] ((none,0,1):GS) (fun ux c=>g2 c.2.1 c.2.2) >>= g2e
theorem x9:eJ gl gk ga gb gn gh=(Av gh >>= g0k):=rfl
theorem Gl.ask (z:Gl) {st:ah} (hk:kindOf st=kd) {i:Nat} (hi:i<gn) {Q:Option Bool→ah→Prop} (h:Q (some (gB i)) st):wpS (model af w) A E s (Av i) Q st:=
 let ⟨_,e1,e2,e3⟩:=z.hx i hi
 uf z.hc z.hk e1 e2 hk (by rw [e3];exact h)
theorem Gl.up (z:Gl) {i j:Nat} (hij:i≤j) (hj:j<gn) (hb:gB i=false):gB j=false:=by
 cases q:gB j with
 |false=>rfl
 |true=>rw [z.mono i j hij hj q] at hb;cases hb
inductive Ft (st:ah) (i:Nat):GS→ah→Prop
 |mk (lo hi:Nat) (h1:lo≤hi) (h2:hi≤gn) (h3:hi+i≤gn+lo) (t:∀ i,i<lo→gB i=true) (f:∀ i,hi≤i→i<gn→gB i=false):Ft st i (none,lo,hi) st
inductive G3Q (st:ah):GS→ah→Prop
 |mk (hi:Nat) (h2:hi≤gn) (t:∀ i,i<hi→gB i=true) (f:∀ i,hi≤i→i<gn→gB i=false):G3Q st (none,hi,hi) st
inductive G1I (st:ah) (i:Nat):GS→ah→Prop
 |mk (l o:Nat) (a1:l<o) (a2:i+1≤o) (a3:gh+l<gn) (a4:gB (gh+l)=true):G1I st i (none,l,o) st
inductive G1Q (st:ah):GS→ah→Prop
 |mk (l o:Nat) (a1:l<o) (a3:gh+l<gn) (a4:gB (gh+l)=true) (a5:gn - gh≤o∨(gh+o<gn∧gB (gh+o)=false)):G1Q st (none,l,o) st
inductive G2I (st:ah) (i:Nat):GS→ah→Prop
 |mk (l o:Nat) (a1:l<o) (a2:i+1≤o) (a3:l≤gh) (a4:gB (gh - l)=false):G2I st i (none,l,o) st
inductive G2Q (st:ah):GS→ah→Prop
 |mk (l o:Nat) (a1:l<o) (a3:l≤gh) (a4:gB (gh - l)=false) (a5:gh+1≤o∨(o≤gh∧gB (gh - o)=true)):G2Q st (none,l,o) st
theorem gm1 {lo hi:Nat} (h:¬ lo≥hi):lo≤lo+(hi - lo) / 2∧lo+(hi - lo) / 2<hi:=⟨ci _ _,Nat.add_lt_of_lt_sub' (Nat.div_lt_self (ig (dj h)) (by decide))⟩
theorem gm2 {m hi i n:Nat} (h:m<hi) (h3:hi+i≤n):m+(i+1)≤n:=aI (by rw [kP i 1,← dY];exact dJ h i) h3
theorem gm3 {lo hi n:Nat} (h:hi+n≤n+lo):hi≤lo:=Nat.le_of_add_le_add_left (a:=n) (by rw [kP n hi];exact h)
theorem gm4 {o:Nat}:o<2 * o+1:=Nat.lt_succ_of_le (Nat.le_mul_of_pos_left o (by decide))
theorem gm5 {i o:Nat} (h:i+1≤o):i+1+1≤2 * o+1:=cW (aI h (Nat.le_mul_of_pos_left o (by decide)))
theorem gm6 {h l o n:Nat} (a1:l<o) (a2:h+l<n):h+l+1≤h+min o (n - h):=dv (Nat.le_min.mpr ⟨a1,Nat.le_sub_of_add_le (by rw [kP];exact a2)⟩) h
theorem gm7 {h o n:Nat} (a:h<n):h+min o (n - h)≤n:=aI (dv (Nat.min_le_right _ _) _) (gR (cY (b7 a)))
theorem gm8 {h o n i:Nat} (q:n - h≤o) (b1:h+min o (n - h)≤i) (b2:i<n):False:=by
 rw [Nat.min_eq_right q] at b1
 exact ba _ (bO b2 (aI (Nat.sub_le_iff_le_add'.mp (aU _)) b1))
theorem gm9 {h o n i:Nat} (q:h+o<n) (b1:h+min o (n - h)≤i):h+o≤i:=by
 rw [bR (Nat.le_sub_of_add_le (by rw [kP];exact b7 q))] at b1
 exact b1
theorem gma {h l o:Nat} (a1:l<o) (a3:l≤h):h+1 - min o (h+1)≤h - l:=aI (Nat.sub_le_sub_left (Nat.le_min.mpr ⟨a1,cW a3⟩) (h+1)) (gR (Nat.succ_sub_succ h l))
theorem gmb {h o i:Nat} (q:h+1≤o) (b:i<h+1 - min o (h+1)):False:=by
 rw [Nat.min_eq_right q,vw] at b
 exact w4 _ b
theorem gmc {h o i:Nat} (q:o≤h) (b:i<h+1 - min o (h+1)):i≤h - o:=by
 rw [bR (cX q),Nat.succ_sub q] at b
 exact ii b
theorem Gl.three (z:Gl) {st:ah} (hk:kindOf st=kd) {i:Nat} {c:GS} {st':ah} (h:Ft st i c st'):wpS (model af w) A E s (g3 c.2.1 c.2.2) (lN (Ft st (i+1)) (G3Q st)) st':=by
 cases h with
 |mk lo hi h1 h2 h3 t f =>
  refine cN (fun q=>?_) fun q=>?_
  ·obtain rfl:=ce h1 q
   exact b9 (G3Q.mk _ h2 t f)
  ·obtain ⟨m1,m2⟩:=gm1 q
   have mn:=bO m2 h2
   exact bF (z.ask hk mn (cN (fun e=>cV (Ft.mk _ _ m2 h2 (cW (aI h3 (dv m1 _))) (fun i hi=>z.mono i _ (ii hi) mn e) f))
    fun e=>cV (Ft.mk _ _ m1 (b7 mn) (gm2 m2 h3) t fun i b1 b2=>z.up b1 b2 (c8.mpr e))))
theorem Gl.fin (z:Gl) {st:ah} (hk:kindOf st=kd) {Q:Option Nat→ah→Prop} (h:∀ k,k≤gn→(∀ i,i<k→gB i=true)→(∀ i,k≤i→i<gn→gB i=false)→Q (some k) st) {lo hi:Nat} (h1:lo≤hi) (h2:hi≤gn) (t:∀ i,i<lo→gB i=true) (f:∀ i,hi≤i→i<gn→gB i=false):wpS (model af w) A E s (EC lo hi) Q st:=by
 refine jl (Ft st) (G3Q st) (.mk _ _ h1 h2 (aI h2 (ci _ _)) t f) (fun i c ux h=>z.three hk h) (fun c _ q=>?_) fun c _ q=>?_
 ·cases q with
  |mk lo hi h1 h2 h3 t f =>
   obtain rfl:=ce h1 (gm3 h3)
   exact .mk _ h2 t f
 ·cases q with
  |mk hi h2 t f=>exact ec (h hi h2 t f)
theorem Gl.one (z:Gl) {st:ah} (hk:kindOf st=kd) {i:Nat} {c:GS} {st':ah} (h:G1I st i c st'):wpS (model af w) A E s (g1 c.2.1 c.2.2) (lN (G1I st (i+1)) (G1Q st)) st':=by
 cases h with
 |mk l o a1 a2 a3 a4 =>
  refine cN (fun q=>b9 (G1Q.mk _ _ a1 a3 a4 (.inl q))) fun q=>?_
  have hn:gh+o<gn:=Nat.add_lt_of_lt_sub' (dj q)
  refine bF (z.ask hk hn (cN (fun e=>b9 (G1Q.mk _ _ a1 a3 a4 (.inr ⟨hn,?_⟩))) fun e=>cV (G1I.mk _ _ gm4 (gm5 a2) hn ?_)))
  ·cases q:gB (gh+o) with
   |false=>rfl
   |true=>rw [q] at e;cases e
  ·cases q:gB (gh+o) with
   |true=>rfl
   |false=>rw [q] at e;exact absurd rfl e
theorem Gl.two (z:Gl) {st:ah} (hk:kindOf st=kd) {i:Nat} {c:GS} {st':ah} (h:G2I st i c st'):wpS (model af w) A E s (g2 c.2.1 c.2.2) (lN (G2I st (i+1)) (G2Q st)) st':=by
 cases h with
 |mk l o a1 a2 a3 a4 =>
  refine cN (fun q=>b9 (G2Q.mk _ _ a1 a3 a4 (.inl q))) fun q=>?_
  have hn:o≤gh:=ii (dj q)
  exact bF (z.ask hk (fB (eu _ _) z.hh) (cN (fun e=>b9 (G2Q.mk _ _ a1 a3 a4 (.inr ⟨hn,e⟩))) fun e=>cV (G2I.mk _ _ gm4 (gm5 a2) hn (c8.mpr e))))
theorem Gl.all (z:Gl) {st:ah} (hk:kindOf st=kd) {Q:Option Nat→ah→Prop} (h:∀ k,k≤gn→(∀ i,i<k→gB i=true)→(∀ i,k≤i→i<gn→gB i=false)→Q (some k) st):wpS (model af w) A E s (eJ gl gk ga gb gn gh) Q st:=by
 rw [x9]
 refine bF (z.ask hk z.hh (cN (fun e=>?_) fun e=>?_))
 ·refine jl (G1I st) (G1Q st) (.mk _ _ (aU _) (aU _) z.hh e) (fun i c ux h=>z.one hk h) (fun c _ q=>?_) fun c _ q=>?_
  ·cases q with
   |mk l o a1 a2 a3 a4=>exact .mk _ _ a1 a3 a4 (.inl (aI (eu _ _) (Nat.le_of_succ_le a2)))
  ·cases q with
   |mk l o a1 a3 a4 a5=>exact z.fin hk h (gm6 a1 a3) (gm7 z.hh) (fun i hi=>z.mono i _ (ii hi) a3 a4) fun i b1 b2=>a5.elim (fun q=>(gm8 q b1 b2).elim) fun q=>z.up (gm9 q.1 b1) b2 q.2
 ·refine jl (G2I st) (G2Q st) (.mk _ _ (aU _) (aU _) (dw _) (c8.mpr e)) (fun i c ux h=>z.two hk h) (fun c _ q=>?_) fun c _ q=>?_
  ·cases q with
   |mk l o a1 a2 a3 a4=>exact .mk _ _ a1 a3 a4 (.inl (b7 (fB z.hh a2)))
  ·cases q with
   |mk l o a1 a3 a4 a5 =>
    have hn:=fB (eu gh o) z.hh
    exact z.fin hk h (gma a1 a3) (b7 (fB (eu _ _) z.hh)) (fun i hi=>a5.elim (fun q=>(gmb q hi).elim) fun q=>z.mono i _ (gmc q.1 hi) hn q.2) fun i b1 b2=>z.up b1 b2 a4
theorem ue (hc:nN af w A E s kd ok L) {left:Bool} {key:Keyed} {arr:Array Keyed} {base n hint:Nat} {st:ah} {Q:Option Nat→ah→Prop} (bey:Nat→Bool)
  (hk:ok key) (hx:∀ i,i<n→∃ x,arr[base+i]?=some x∧ok x∧(if left then L x key else !L key x)=bey i)
  (mono:∀ i j,i≤j→j<n→bey j=true→bey i=true) (hh:hint<n) (hkd:kindOf st=kd)
  (h:∀ k,k≤n→(∀ i,i<k→bey i=true)→(∀ i,k≤i→i<n→bey i=false)→Q (some k) st) :
  wpS (model af w) A E s (eJ left key arr base n hint) Q st:=
 have q:DP left key arr base n hint bey:=eh fun no=>eX (p:=fun x:Fh=>¬ GalP x) ⟨(left,key,arr,base,n,hint,bey),no⟩ fun a1 a2 a3 a4 ux ux hk h=>Gl.all ⟨hc,a1,a2,a3,a4⟩ hk h
 q hk hx mono hh st Q hkd h
end
set_option tactic.hygienic true
structure MI (L:Keyed→Keyed→Bool) (T:Keyed→Keyed→Prop) (la lb:List Keyed) (out:List Keyed) (ia ib:Nat):Prop where
 perm:out.Perm (la.take ia++lb.take ib)
 srt:out.Pairwise (RR L T)
 ra:∀ x∈out,∀ y∈la.drop ia,RR L T x y
 rb:∀ x∈out,∀ y∈lb.drop ib,RR L T x y
theorem o5 {α:Type} (l:List α) (i k:Nat):l.take i++(l.drop i).take k=l.take (i+k):=by
 rw [List.take_add]
theorem jQ {α:Type} (l:List α) (i k:Nat):l.drop i=(l.drop i).take k++l.drop (i+k):=by
 rw [← kY];exact (aG k _).symm
section
variable {la lb out:List Keyed} {ia ib:Nat}
theorem MI.takeA (h:MI L T la lb out ia ib) (hs:la.Pairwise (RR L T)) (k:Nat) (ht:∀ x∈la,∀ y∈lb,T x y)
  (hk:∀ x∈(la.drop ia).take k,∀ y∈lb.drop ib,L y x=false):MI L T la lb (out++(la.drop ia).take k) (ia+k) ib:=by
 have hd:(la.drop ia).Pairwise (RR L T):=hs.sublist (c6 _ _)
 rw [jQ la ia k,aA] at hd
 refine ⟨?_,?_,?_,?_⟩
 ·refine (h.perm.append_right _).trans ?_
  rw [← o5 la ia k,ai,ai]
  exact bK _ bA
 ·rw [aA]
  exact ⟨h.srt,hd.1,fun x hx y hy=>h.ra x hx y (aJ hy)⟩
 ·intro x hx y hy
  rcases ay.mp hx with hx|hx
  ·exact h.ra x hx y (by rw [jQ la ia k];exact cJ _ hy)
  ·exact hd.2.2 x hx y hy
 ·intro x hx y hy
  rcases ay.mp hx with hx|hx
  ·exact h.rb x hx y hy
  ·exact ⟨hk x hx y hy,.inr (ht x (aK (aJ hx)) y (aK hy))⟩
theorem MI.takeB (h:MI L T la lb out ia ib) (hs:lb.Pairwise (RR L T)) (k:Nat) (ha:∀ x y,x∈la→y∈lb→L y x=true→L x y=false)
  (hk:∀ x∈(lb.drop ib).take k,∀ y∈la.drop ia,L x y=true):MI L T la lb (out++(lb.drop ib).take k) ia (ib+k):=by
 have hd:(lb.drop ib).Pairwise (RR L T):=hs.sublist (c6 _ _)
 rw [jQ lb ib k,aA] at hd
 refine ⟨?_,?_,?_,?_⟩
 ·refine (h.perm.append_right _).trans ?_
  rw [← o5 lb ib k,ai]
 ·rw [aA]
  exact ⟨h.srt,hd.1,fun x hx y hy=>h.rb x hx y (aJ hy)⟩
 ·intro x hx y hy
  rcases ay.mp hx with hx|hx
  ·exact h.ra x hx y hy
  ·have:=hk x hx y hy
   exact ⟨ha y x (aK hy) (aK (aJ hx)) this,.inl this⟩
 ·intro x hx y hy
  rcases ay.mp hx with hx|hx
  ·exact h.rb x hx y (by rw [jQ lb ib k];exact cJ _ hy)
  ·exact hd.2.2 x hx y hy
noncomputable def fZ (L:Keyed→Keyed→Bool) (T:Keyed→Keyed→Prop) (la lb res:List Keyed):Prop:=res.Perm (la++lb)∧res.Pairwise (RR L T)
theorem MI.doneB (h:MI L T la lb out ia ib) (hs:la.Pairwise (RR L T)) (hb:lb.length≤ib):fZ L T la lb (out++la.drop ia++lb.drop ib):=by
 rw [kX hb,cA]
 have h1:=h.perm;rw [cB hb] at h1
 refine ⟨?_,?_⟩
 ·refine (h1.append_right _).trans ?_
  rw [ai]
  refine (bK _ bA).trans ?_
  rw [← ai,aG]
 ·rw [aA]
  exact ⟨h.srt,hs.sublist (c6 _ _),h.ra⟩
theorem MI.doneA (h:MI L T la lb out ia ib) (hs:lb.Pairwise (RR L T)) (hb:la.length≤ia):fZ L T la lb (out++la.drop ia++lb.drop ib):=by
 rw [kX hb,cA]
 have h1:=h.perm;rw [cB hb] at h1
 refine ⟨?_,?_⟩
 ·refine (h1.append_right _).trans ?_
  rw [ai,aG]
 ·rw [aA]
  exact ⟨h.srt,hs.sublist (c6 _ _),h.rb⟩
theorem MI.last (h:MI L T la lb out ia ib) (hsa:la.Pairwise (RR L T)) (hsb:lb.Pairwise (RR L T)) (hc:∀ x∈lb.drop ib,∀ y∈la.drop ia,RR L T x y):fZ L T la lb (out++lb.drop ib++la.drop ia):=by
 refine ⟨?_,?_⟩
 ·refine ((h.perm.append_right _).append_right _).trans ?_
  rw [ai (la.take ia),aG,ai]
  refine (bK _ bA).trans ?_
  rw [← ai,aG]
 ·rw [aA,aA]
  refine ⟨⟨h.srt,hsb.sublist (c6 _ _),h.rb⟩,hsa.sublist (c6 _ _),fun x hx y hy=>?_⟩
  rcases ay.mp hx with hx|hx
  ·exact h.ra x hx y hy
  ·exact hc x hx y hy
end
set_option tactic.hygienic false
noncomputable def dn (st st':ah):Prop:=kindOf st'=kindOf st∧arrOf st'=arrOf st∧br st'=br st∧dD st'=dD st
theorem dn.refl (st:ah):dn st st:=⟨rfl,rfl,rfl,rfl⟩
theorem dn.trans {a b c:ah} (h:dn a b) (h':dn b c):dn a c:=⟨h'.1.trans h.1,h'.2.1.trans h.2.1,h'.2.2.1.trans h.2.2.1,h'.2.2.2.trans h.2.2.2⟩
theorem dn.set (st:ah) (g:Nat):dn st (ah.mk' (kindOf st) (arrOf st) (br st) g (dD st)):=⟨rfl,rfl,rfl,rfl⟩
section
theorem fH {g:Nat} {st:ah} {Q:Unit→ah→Prop} (h:∀ st',dn st st'→Q () st'):wpS (model af w) A E s (eR g) Q st:=by
 rw [ni];exact wpS_modify (h _ (dn.set st g))
structure MP (ok:Keyed→Prop) (L:Keyed→Keyed→Bool) (T:Keyed→Keyed→Prop) (a b:Array Keyed):Prop where
 sa:a.toList.Pairwise (RR L T)
 sb:b.toList.Pairwise (RR L T)
 oa:∀ x∈a.toList,ok x
 ob:∀ x∈b.toList,ok x
 ht:∀ x∈a.toList,∀ y∈b.toList,T x y
 na:1≤a.size
 nb:1≤b.size
 first:∀ y∈b.toList.take 1,∀ x∈a.toList,L y x=true
 last:∀ y∈b.toList,∀ x∈a.toList.drop (a.size - 1),L y x=true
theorem md {a:Array Keyed} {i:Nat} (h:i<a.size):∃ x,a[i]?=some x∧x∈a.toList∧a.toList.drop i=x::a.toList.drop (i+1):=by
 refine ⟨a[i],by simp [h],Array.getElem_mem_toList h,?_⟩
 rw [cP (by simpa using h)];simp
theorem nO {a:Array Keyed} {i:Nat}:(a.extract i a.size).toList=a.toList.drop i:=by
 rw [iT];simp [vx];apply cB;simp
theorem mv {a:Array Keyed} {i k:Nat}:(a.extract i (i+k)).toList=(a.toList.drop i).take k:=by
 rw [iT];simp [vx]
theorem mI {a:Array Keyed} {i:Nat} {y:Keyed} (h:y∈a.toList.drop i):∃ j,i≤j∧j<a.size∧a[j]?=some y:=by
 obtain ⟨j,hj,rfl⟩:=m6.mp h
 rw [bp,aD] at hj
 exact ⟨i+j,by (exact ci _ _),by omega,by rw [List.getElem_drop,m8];simp⟩
theorem rj {a:Array Keyed} {i j:Nat} {y:Keyed} (h:a[j]?=some y) (hij:i≤j):y∈a.toList.drop i:=by
 obtain ⟨hj,rfl⟩:=bJ.mp h
 refine m6.mpr ⟨j - i,by rw [bp,aD];omega,?_⟩
 rw [List.getElem_drop,m8];congr 1;omega
theorem lJ {a:Array Keyed} {i k:Nat} {y:Keyed} (h:y∈(a.toList.drop i).take k):∃ j,i≤j∧j<i+k∧j<a.size∧a[j]?=some y:=by
 obtain ⟨j,hj,rfl⟩:=m6.mp h
 rw [bh,bp,aD] at hj
 exact ⟨i+j,by (exact ci _ _),by omega,by omega,by rw [qF,List.getElem_drop,m8];simp⟩
theorem qW {R:Keyed→Keyed→Prop} {a:Array Keyed} (h:a.toList.Pairwise R) {i j:Nat} {x y:Keyed} (hi:a[i]?=some x) (hj:a[j]?=some y) (hij:i<j):R x y:=by
 obtain ⟨h1,rfl⟩:=bJ.mp hi
 obtain ⟨h2,rfl⟩:=bJ.mp hj
 rw [dp] at h
 have:=h i j (by simpa using h1) (by simpa using h2) hij
 simpa using this
theorem kr {α:Type} {l:List α} {k:Nat} {z:α} (h:z∈l.take k):∃ m,m<k∧l[m]?=some z:=by
 obtain ⟨m,e⟩:=lQ.mp h
 rw [List.getElem?_take] at e
 split at e
 ·exact ⟨m,by assumption,e⟩
 ·cases e
theorem kt {α:Type} {l:List α} {k:Nat} {z:α} (h:z∈l.drop k):∃ m,k≤m∧m<l.length∧l[m]?=some z:=by
 obtain ⟨m,e⟩:=lQ.mp h
 rw [jW] at e
 exact ⟨k+m,ci _ _,(aF.mp e).1,e⟩
theorem uB (hc:nN af w A E s kd ok L) {l:List Keyed} (sl:l.Pairwise (RR L T)) (ol:∀ x∈l,ok x) {i j:Nat} {x y:Keyed} (hi:l[i]?=some x) (hj:l[j]?=some y) (hij:i≤j):L y x=false:=by
 rcases Fc hij with q|q
 ·subst q;rw [hi] at hj;cases hj
  cases q:L x x with
  |false=>rfl
  |true=>have:=hc.asym x x (ol x (aE hi)) (ol x (aE hi)) q;rw [q] at this;cases this
 ·obtain ⟨h1,rfl⟩:=aF.mp hi
  obtain ⟨h2,rfl⟩:=aF.mp hj
  exact (dp.mp sl i j h1 h2 q).1
theorem lj (hc:nN af w A E s kd ok L) {left:Bool} {key:Keyed} {a:Array Keyed} {l:List Keyed} (sl:l.Pairwise (RR L T)) (ol:∀ x∈l,ok x) {base n hint:Nat} {st:ah} {Q:Option Nat→ah→Prop}
  (hk:ok key) (ha:∀ i,i<l.length→a[base+i]?=l[i]?) (hn:l.length=n) (hh:hint<n) (hkd:kindOf st=kd)
  (h:∀ k,k≤n→(∀ z∈l.take k,(if left then L z key else !L key z)=true)→(∀ z∈l.drop k,(if left then L z key else !L key z)=false)→Q (some k) st) :
  wpS (model af w) A E s (eJ left key a base n hint) Q st:=by
 subst hn
 refine ue hc (fun i=>match l[i]? with|some x=>if left then L x key else !L key x|none=>false) hk (fun i hi=>⟨l[i],(ha i hi).trans (aO hi),ol _ (List.getElem_mem hi),by simp only [aO hi]⟩) ?_ hh hkd fun k k1 k2 k3=>h k k1 (fun z hz=>?_) fun z hz=>?_
 ·intro i j hij hj hb
  obtain ⟨x,hx⟩:∃ x,l[i]?=some x:=⟨_,aO (fB hij hj)⟩
  obtain ⟨z,hz⟩:∃ x,l[j]?=some x:=⟨_,aO hj⟩
  simp only [hx,hz] at hb ⊢
  have h4:=uB hc sl ol hx hz hij
  have ox:=ol x (aE hx)
  have oz:=ol z (aE hz)
  cases left with
  |true =>
   rw [if_pos rfl] at hb ⊢
   cases hq:L x key with
   |true=>rfl
   |false=>rw [hc.neg key x z hk ox oz hq h4] at hb;cases hb
  |false =>
   rw [if_neg jX] at hb ⊢
   cases hq:L key z with
   |true=>rw [hq] at hb;cases hb
   |false=>rw [hc.neg x z key ox oz hk h4 hq];rfl
 ·obtain ⟨m,m1,e⟩:=kr hz
  have:=k2 m m1
  simp only [e] at this;exact this
 ·obtain ⟨m,m1,m2,e⟩:=kt hz
  have:=k3 m m1 m2
  simp only [e] at this;exact this
theorem Bf {b:Bool} (h:(!b)=true):b=false:=by cases b <;> trivial
theorem Bg {b:Bool} (h:(!b)=false):b=true:=by cases b <;> trivial
end
set_option maxHeartbeats 1000000
theorem MI.oneA {a b out:Array Keyed} {ia ib:Nat} {x:Keyed} (M:MI L T a.toList b.toList out.toList ia ib) (sa:a.toList.Pairwise (RR L T)) (ht:∀ x∈a.toList,∀ y∈b.toList,T x y) (hx:a[ia]?=some x) (hz:∀ z∈b.toList.drop ib,L z x=false):MI L T a.toList b.toList (out.push x).toList (ia+1) ib:=by
 obtain ⟨x',hx',mx,dx⟩:=md (a:=a) (i:=ia) (bJ.mp hx).1
 rw [hx] at hx';cases hx'
 have M':=M.takeA sa 1 ht (by rw [dx];intro z hz' w hw;rw [aC.mp hz'];exact hz w hw)
 rw [dx] at M'
 rw [Array.toList_push];exact M'
theorem MI.oneB {a b out:Array Keyed} {ia ib:Nat} {y:Keyed} (M:MI L T a.toList b.toList out.toList ia ib) (sb:b.toList.Pairwise (RR L T)) (asym:∀ x y,x∈a.toList→y∈b.toList→L y x=true→L x y=false) (hy:b[ib]?=some y) (hz:∀ z∈a.toList.drop ia,L y z=true):MI L T a.toList b.toList (out.push y).toList ia (ib+1):=by
 obtain ⟨x',hx',mx,dx⟩:=md (a:=b) (i:=ib) (bJ.mp hy).1
 rw [hy] at hx';cases hx'
 have M':=M.takeB sb 1 asym (by rw [dx];intro z hz' w hw;rw [aC.mp hz'];exact hz w hw)
 rw [dx] at M'
 rw [Array.toList_push];exact M'
theorem nA {la lb:List Keyed} {o x y:Array Keyed} {i j:Nat} (h:fZ L T la lb (o.toList++x.toList.drop i++y.toList.drop j)):fZ L T la lb (o++x.extract i x.size++y.extract j y.size).toList:=by
 rw [gg,gg,nO,nO];exact h
noncomputable def Ff (a b:Array Keyed):Prop:=MP ok L T a b→∀ (st:ah) (Q:Array Keyed→ah→Prop),kindOf st=kd→(∀ st' res,dn st st'→fZ L T a.toList b.toList res.toList→Q res st')→wpS (model af w) A E s (km a b) Q st∧wpS (model af w) A E s (kq a b) Q st
noncomputable def mab:Array Keyed×Array Keyed:=ik fun x=>¬ Ff x.1 x.2
noncomputable def ma:Array Keyed:=mab.1
noncomputable def mb:Array Keyed:=mab.2
noncomputable abbrev Dp:=Option (Array Keyed)×Array Keyed×Nat×Nat×Nat
noncomputable abbrev Do:=Option (Array Keyed)×Array Keyed×Nat×Nat×Nat×Nat
noncomputable abbrev t9:=Option (Array Keyed)×Array Keyed×Nat×Nat×Nat×Nat×Nat
noncomputable def lK (out:Array Keyed) (ia ib:Nat):Array Keyed:=out++ma.extract ia ma.size++mb.extract ib mb.size
noncomputable def sA (out:Array Keyed) (ia ib:Nat):Array Keyed:=out++mb.extract ib mb.size++ma.extract ia ma.size
noncomputable def mlBy (mg:Nat) (out:Array Keyed) (ia ib bc:Nat):StateT ah Sem (ForInStep Do):=
 if (ib == mb.size)=true then pure (.done (some (lK out ia ib),out,ia,ib,0,bc)) else if bc≥mg then pure (.done (none,out,ia,ib,0,bc)) else pure (.yield (none,out,ia,ib,0,bc))
noncomputable def mlAx (mg:Nat) (out:Array Keyed) (ia ib ac:Nat):StateT ah Sem (ForInStep Do):=
 if (ia+1 == ma.size)=true then pure (.done (some (sA out ia ib),out,ia,ib,ac,0)) else if ac≥mg then pure (.done (none,out,ia,ib,ac,0)) else pure (.yield (none,out,ia,ib,ac,0))
noncomputable def ml1k (mg:Nat) (out:Array Keyed) (ia ib ac bc:Nat) (r:Option Bool):StateT ah Sem (ForInStep Do):=do
 let some bw:=r|pure (.done (some (lK out ia ib),out,ia,ib,ac,bc))
 if bw=true then elem' mb ib >>= fun y=>mlBy mg (out.push y) ia (ib+1) (bc+1) else elem' ma ia >>= fun x=>mlAx mg (out.push x) (ia+1) ib (ac+1)
noncomputable def ml1 (mg:Nat) (out:Array Keyed) (ia ib ac bc:Nat):StateT ah Sem (ForInStep Do):=elem' mb ib >>= fun y=>elem' ma ia >>= fun x=>lt' y x >>= ml1k mg out ia ib ac bc
noncomputable def mlDx (mg ac bc:Nat) (out:Array Keyed) (ia ib:Nat):StateT ah Sem (ForInStep t9):=
 if (ia+1 == ma.size)=true then pure (.done (some (sA out ia ib),out,ia,ib,mg,ac,bc)) else if (decide (ac<7) && decide (bc<7))=true then pure (.done (none,out,ia,ib,mg,ac,bc)) else pure (.yield (none,out,ia,ib,mg,ac,bc))
noncomputable def mlD (mg ac bc:Nat) (out:Array Keyed) (ia ib:Nat):StateT ah Sem (ForInStep t9):=elem' ma ia >>= fun x=>mlDx mg ac bc (out.push x) (ia+1) ib
noncomputable def mlCz (mg ac bc:Nat) (out:Array Keyed) (ia ib:Nat):StateT ah Sem (ForInStep t9):=
 if (ib == mb.size)=true then pure (.done (some (lK out ia ib),out,ia,ib,mg,ac,bc)) else mlD mg ac bc out ia ib
noncomputable def mlCk (mg ac bc:Nat) (out:Array Keyed) (ia ib:Nat) (r:Option Nat):StateT ah Sem (ForInStep t9):=do
 let some k:=r|pure (.done (some (lK out ia ib),out,ia,ib,mg,ac,bc))
 if k > 0 then mlCz mg ac k (out++mb.extract ib (ib+k)) ia (ib+k) else mlD mg ac k out ia ib
noncomputable def mlCy (mg ac bc:Nat) (out:Array Keyed) (ia ib:Nat):StateT ah Sem (ForInStep t9):=
 if (ib == mb.size)=true then pure (.done (some (lK out ia ib),out,ia,ib,mg,ac,bc)) else elem' ma ia >>= fun x=>eJ true x mb ib (mb.size - ib) 0 >>= mlCk mg ac bc out ia ib
noncomputable def mlC (mg ac bc:Nat) (out:Array Keyed) (ia ib:Nat):StateT ah Sem (ForInStep t9):=elem' mb ib >>= fun y=>mlCy mg ac bc (out.push y) ia (ib+1)
noncomputable def mlTz (mg ac bc:Nat) (out:Array Keyed) (ia ib:Nat):StateT ah Sem (ForInStep t9):=
 if (ia+1 == ma.size)=true then pure (.done (some (sA out ia ib),out,ia,ib,mg,ac,bc)) else if (ia == ma.size)=true then pure (.done (some (lK out ia ib),out,ia,ib,mg,ac,bc)) else mlC mg ac bc out ia ib
noncomputable def mlTk (mg ac bc:Nat) (out:Array Keyed) (ia ib:Nat) (r:Option Nat):StateT ah Sem (ForInStep t9):=do
 let some k:=r|pure (.done (some (lK out ia ib),out,ia,ib,mg,ac,bc))
 if k > 0 then mlTz mg k bc (out++ma.extract ia (ia+k)) (ia+k) ib else mlC mg k bc out ia ib
noncomputable def mlT (mg ac bc:Nat) (out:Array Keyed) (ia ib:Nat):StateT ah Sem (ForInStep t9):=eR mg >>= fun ux=>elem' mb ib >>= fun y=>eJ false y ma ia (ma.size - ia) 0 >>= mlTk mg ac bc out ia ib
noncomputable def ml2 (c:t9):StateT ah Sem (ForInStep t9):=if c.2.2.2.2.1 > 1 then mlT (c.2.2.2.2.1 - 1) c.2.2.2.2.2.1 c.2.2.2.2.2.2 c.2.1 c.2.2.1 c.2.2.2.1 else mlT c.2.2.2.2.1 c.2.2.2.2.2.1 c.2.2.2.2.2.2 c.2.1 c.2.2.1 c.2.2.2.1
noncomputable def ml0c (c:t9):StateT ah Sem (ForInStep Dp):=bD (fun ux=>_) c.1 (fun r=>pure (.done (some r,c.2.1,c.2.2.1,c.2.2.2.1,c.2.2.2.2.1))) (fun ux=>eR (c.2.2.2.2.1+1) >>= fun ux=>pure (.yield (none,c.2.1,c.2.2.1,c.2.2.2.1,c.2.2.2.2.1+1)))
noncomputable def ml0b (mg:Nat) (c:Do):StateT ah Sem (ForInStep Dp):=bD (fun ux=>_) c.1 (fun r=>pure (.done (some r,c.2.1,c.2.2.1,c.2.2.2.1,mg))) (fun ux=>(liftM (rule "list.sort.gallop"):StateT ah Sem Unit) >>= fun ux=>forIn [0:ma.size+mb.size] ((none,c.2.1,c.2.2.1,c.2.2.2.1,mg+1,c.2.2.2.2.1,c.2.2.2.2.2):t9) (fun ux=>ml2) >>= ml0c)
noncomputable def ml0 (c:Dp):StateT ah Sem (ForInStep Dp):=forIn [0:ma.size+mb.size] ((none,c.2.1,c.2.2.1,c.2.2.2.1,0,0):Do) (fun ux d=>ml1 c.2.2.2.2 d.2.1 d.2.2.1 d.2.2.2.1 d.2.2.2.2.1 d.2.2.2.2.2) >>= ml0b c.2.2.2.2
noncomputable def mlEnd (c:Dp):StateT ah Sem (Array Keyed):=bD (fun ux=>_) c.1 (fun r=>pure r) (fun ux=>liftM (unsupported "internal:list.sort.merge-bound":Sem (Array Keyed)))
noncomputable def mlGo (out:Array Keyed):StateT ah Sem (Array Keyed):=
 if (1 == mb.size)=true then pure (lK out 0 1) else if (0+1 == ma.size)=true then pure (sA out 0 1) else get >>= fun st=>forIn [0:ma.size+mb.size] ((none,out,0,1,gallopOf st):Dp) (fun ux=>ml0) >>= mlEnd
theorem uw:km ma mb=((liftM (rule "list.sort.merge-lo"):StateT ah Sem Unit) >>= fun ux=>elem' mb 0 >>= fun y=>mlGo #[y]):=rfl
structure Lo:Prop where
 hc:nN af w A E s kd ok L
 P:MP ok L T ma mb
theorem Lo.asym (z:Lo):∀ x y,x∈ma.toList→y∈mb.toList→L y x=true→L x y=false:=fun x y hx hy=>z.hc.asym y x (z.P.ob y hy) (z.P.oa x hx)
theorem ix {a:Array Keyed} {i:Nat} {x:Keyed} (h:a[i]?=some x):x∈a.toList:=Array.mem_toList_iff.mpr (Array.mem_of_getElem? h)
theorem Lo.winA (z:Lo) {ia ib:Nat} {x y:Keyed} (hx:ma[ia]?=some x) (hy:mb[ib]?=some y) (hl:L y x=false):∀ v∈mb.toList.drop ib,L v x=false:=by
 intro v hv
 obtain ⟨j,h1,h2,h3⟩:=mI hv
 rcases dE ib j with q|q
 ·exact z.hc.neg x y v (z.P.oa x (ix hx)) (z.P.ob y (ix hy)) (z.P.ob v (aK hv)) hl (qW z.P.sb hy h3 q).1
 ·obtain rfl:=ce q h1
  rw [hy] at h3;cases h3;exact hl
theorem Lo.winB (z:Lo) {ia ib:Nat} {x y:Keyed} (hx:ma[ia]?=some x) (hy:mb[ib]?=some y) (hl:L y x=true):∀ v∈ma.toList.drop ia,L y v=true:=by
 intro v hv
 obtain ⟨j,h1,h2,h3⟩:=mI hv
 rcases dE ia j with q|q
 ·cases hq:L y v with
  |true=>rfl
  |false=>rw [z.hc.neg x v y (z.P.oa x (ix hx)) (z.P.oa v (aK hv)) (z.P.ob y (ix hy)) (qW z.P.sa hx h3 q).1 hq] at hl;cases hl
 ·obtain rfl:=ce q h1
  rw [hx] at h3;cases h3;exact hl
theorem Lo.last (z:Lo) {out:Array Keyed} {ia ib:Nat} (M:MI L T ma.toList mb.toList out.toList ia ib) (hi:ia+1=ma.size):fZ L T ma.toList mb.toList (sA out ia ib).toList:=by
 refine nA (M.last z.P.sa z.P.sb fun x hx y hy=>?_)
 have h1:=z.P.last x (aK hx) y (by rw [← hi];exact hy)
 exact ⟨z.asym y x (aK hy) (aK hx) h1,.inl h1⟩
theorem Lo.doneB (z:Lo) {out:Array Keyed} {ia ib:Nat} (M:MI L T ma.toList mb.toList out.toList ia ib) (h:ib=mb.size):fZ L T ma.toList mb.toList (lK out ia ib).toList:=nA (M.doneB z.P.sa (gR (aD.trans h.symm)))
theorem Lo.doneA (z:Lo) {out:Array Keyed} {ia ib:Nat} (M:MI L T ma.toList mb.toList out.toList ia ib) (h:ia=ma.size):fZ L T ma.toList mb.toList (lK out ia ib).toList:=nA (M.doneA z.P.sb (gR (aD.trans h.symm)))
inductive MlI (st:ah) (j:Nat):Dp→ah→Prop
 |mk (out:Array Keyed) (ia ib mg:Nat) (st':ah) (g:dn st st') (M:MI L T ma.toList mb.toList out.toList ia ib) (h1:ia+1<ma.size) (h2:ib<mb.size) (h3:j+1≤ia+ib):MlI st j (none,out,ia,ib,mg) st'
inductive MlQ (st:ah):Dp→ah→Prop
 |mk (r:Array Keyed) (c:Array Keyed×Nat×Nat×Nat) (st':ah) (g:dn st st') (m:fZ L T ma.toList mb.toList r.toList):MlQ st (some r,c) st'
inductive tK (st:ah) (n i:Nat):Do→ah→Prop
 |mk (out:Array Keyed) (ia ib ac bc:Nat) (M:MI L T ma.toList mb.toList out.toList ia ib) (h1:ia+1<ma.size) (h2:ib<mb.size) (h3:n+i≤ia+ib):tK st n i (none,out,ia,ib,ac,bc) st
inductive p6 (st:ah) (n:Nat):Do→ah→Prop
 |done (r:Array Keyed) (c:Array Keyed×Nat×Nat×Nat×Nat) (m:fZ L T ma.toList mb.toList r.toList):p6 st n (some r,c) st
 |go (out:Array Keyed) (ia ib ac bc:Nat) (M:MI L T ma.toList mb.toList out.toList ia ib) (h1:ia+1<ma.size) (h2:ib<mb.size) (h3:n+1≤ia+ib):p6 st n (none,out,ia,ib,ac,bc) st
inductive tJ (st:ah) (n i:Nat):t9→ah→Prop
 |mk (out:Array Keyed) (ia ib mg ac bc:Nat) (st':ah) (g:dn st st') (M:MI L T ma.toList mb.toList out.toList ia ib) (h1:ia+1<ma.size) (h2:ib<mb.size) (h3:n+i≤ia+ib):tJ st n i (none,out,ia,ib,mg,ac,bc) st'
inductive nK (st:ah) (n:Nat):t9→ah→Prop
 |done (r:Array Keyed) (c:Array Keyed×Nat×Nat×Nat×Nat×Nat) (st':ah) (g:dn st st') (m:fZ L T ma.toList mb.toList r.toList):nK st n (some r,c) st'
 |go (out:Array Keyed) (ia ib mg ac bc:Nat) (st':ah) (g:dn st st') (M:MI L T ma.toList mb.toList out.toList ia ib) (h1:ia+1<ma.size) (h2:ib<mb.size) (h3:n≤ia+ib):nK st n (none,out,ia,ib,mg,ac,bc) st'
theorem y8 {x y m n:Nat} (h1:x+1<m) (h2:y<n) (h3:m+n≤x+y):False:=ba _ (bO (Nat.add_lt_add (d8 h1) h2) h3)
theorem zi {n i m:Nat} (h:n+(i+1)≤m):n+1≤m:=aI (dv (jz 1 i) _) h
theorem zh {n i x y:Nat} (h:n+i≤x+y):n+(i+1)≤x+1+y:=by rw [gT];exact cW h
theorem Lo.by (z:Lo) {st:ah} {mg ia ib bc n i:Nat} {out:Array Keyed} (M:MI L T ma.toList mb.toList out.toList ia ib) (h1:ia+1<ma.size) (h2:ib≤mb.size) (h3:n+(i+1)≤ia+ib):wpS (model af w) A E s (mlBy mg out ia ib bc) (lN (tK st n (i+1)) (p6 st n)) st:=
 dN (fun q=>b9 (p6.done _ _ (z.doneB M q))) fun q=>have f:=cb h2 q
  cN (fun ux=>b9 (p6.go _ _ _ _ _ M h1 f (zi h3))) fun ux=>cV (tK.mk _ _ _ _ _ M h1 f h3)
theorem Lo.ax (z:Lo) {st:ah} {mg ia ib ac n i:Nat} {out:Array Keyed} (M:MI L T ma.toList mb.toList out.toList ia ib) (h1:ia+1≤ma.size) (h2:ib<mb.size) (h3:n+(i+1)≤ia+ib):wpS (model af w) A E s (mlAx mg out ia ib ac) (lN (tK st n (i+1)) (p6 st n)) st:=
 dN (fun q=>b9 (p6.done _ _ (z.last M q))) fun q=>have f:=cb h1 q
  cN (fun ux=>b9 (p6.go _ _ _ _ _ M f h2 (zi h3))) fun ux=>cV (tK.mk _ _ _ _ _ M f h2 h3)
theorem Lo.one (z:Lo) {st:ah} (hk:kindOf st=kd) {mg n i:Nat} {c:Do} {st':ah} (h:tK st n i c st'):wpS (model af w) A E s (ml1 mg c.2.1 c.2.2.1 c.2.2.2.1 c.2.2.2.2.1 c.2.2.2.2.2) (lN (tK st n (i+1)) (p6 st n)) st':=by
 cases h with
 |mk out ia ib ac bc M h1 h2 h3 =>
  obtain ⟨y,hy,my,_⟩:=md h2
  obtain ⟨x,hx,mx,_⟩:=md (d8 h1)
  exact cD hy (cD hx (z.hc.ltB (z.P.ob y my) (z.P.oa x mx) hk (cN (fun q=>cD hy (z.by (M.oneB z.P.sb z.asym hy (z.winB hx hy q)) h1 h2 (cW h3)))
   fun q=>cD hx (z.ax (M.oneA z.P.sa z.P.ht hx (z.winA hx hy (c8.mpr q))) h1 h2 (zh h3)))))
theorem Lo.galA (z:Lo) {st:ah} (hk:kindOf st=kd) {ia:Nat} {y:Keyed} (hy:ok y) (hi:ia<ma.size) {Q:Option Nat→ah→Prop} (h:∀ k,k≤ma.size - ia→(∀ v∈(ma.toList.drop ia).take k,L y v=false)→(∀ v∈ma.toList.drop (ia+k),L y v=true)→Q (some k) st):wpS (model af w) A E s (eJ false y ma ia (ma.size - ia) 0) Q st:=
 lj (left:=false) z.hc (z.P.sa.sublist (c6 _ _)) (fun x hx=>z.P.oa x (aK hx)) hy (fun i _=>by rw [jW,bG]) (by rw [bp,aD]) (ig hi) hk
  fun k k1 k2 k3=>h k k1 (fun v hv=>Bf (k2 v hv)) fun v hv=>Bg (k3 v (by rw [kY];exact hv))
theorem Lo.galB (z:Lo) {st:ah} (hk:kindOf st=kd) {ib:Nat} {x:Keyed} (hx:ok x) (hi:ib<mb.size) {Q:Option Nat→ah→Prop} (h:∀ k,k≤mb.size - ib→(∀ v∈(mb.toList.drop ib).take k,L v x=true)→(∀ v∈mb.toList.drop (ib+k),L v x=false)→Q (some k) st):wpS (model af w) A E s (eJ true x mb ib (mb.size - ib) 0) Q st:=
 lj (left:=true) z.hc (z.P.sb.sublist (c6 _ _)) (fun x hx=>z.P.ob x (aK hx)) hx (fun i _=>by rw [jW,bG]) (by rw [bp,aD]) (ig hi) hk
  fun k k1 k2 k3=>h k k1 k2 fun v hv=>k3 v (by rw [kY];exact hv)
theorem Lo.d (z:Lo) {st st':ah} (g:dn st st') {mg ac bc ia ib n i:Nat} {out:Array Keyed} {x:Keyed} (M:MI L T ma.toList mb.toList out.toList ia ib) (h1:ia+1<ma.size) (h2:ib<mb.size) (hx:ma[ia]?=some x) (hz:∀ v∈mb.toList.drop ib,L v x=false) (h3:n+i≤ia+ib):wpS (model af w) A E s (mlD mg ac bc out ia ib) (lN (tJ st n (i+1)) (nK st n)) st':=
 have M':=M.oneA z.P.sa z.P.ht hx hz
 cD hx (dN (fun q=>b9 (nK.done _ _ _ g (z.last M' q))) fun q=>have f:=cb h1 q
  have h3:=zh h3
  cN (fun ux=>b9 (nK.go _ _ _ _ _ _ _ g M' f h2 (aI (ci _ _) h3))) fun ux=>cV (tJ.mk _ _ _ _ _ _ _ g M' f h2 h3))
theorem Lo.c (z:Lo) {st st':ah} (g:dn st st') (hk:kindOf st'=kd) {mg ac bc ia ib n i:Nat} {out:Array Keyed} {y:Keyed} (M:MI L T ma.toList mb.toList out.toList ia ib) (h1:ia+1<ma.size) (hy:mb[ib]?=some y) (hz:∀ v∈ma.toList.drop ia,L y v=true) (h3:n+i≤ia+ib):wpS (model af w) A E s (mlC mg ac bc out ia ib) (lN (tJ st n (i+1)) (nK st n)) st':=by
 have h2:ib<mb.size:=(bJ.mp hy).1
 have M':=M.oneB z.P.sb z.asym hy hz
 have h4:n+i≤ia+(ib+1):=cX h3
 obtain ⟨x,hx,mx,_⟩:=md (d8 h1)
 refine cD hy (dN (fun q=>b9 (nK.done _ _ _ g (z.doneB M' q))) fun q=>cD hx (bF (z.galB hk (z.P.oa x mx) (cb h2 q) fun k k1 k2 k3=>?_)))
 refine cN (fun _=>?_) fun q0=>?_
 ·have M2:=M'.takeB z.P.sb k z.asym (fun v hv u hu=>z.winB hx (lJ hv).choose_spec.2.2.2 (k2 v hv) u hu)
  rw [← mv,← gg] at M2
  exact dN (fun q=>b9 (nK.done _ _ _ g (z.doneB M2 q))) fun q2=>z.d g M2 h1 (cb (lO h2 k1) q2) hx k3 (aI h4 (dv (ci _ _) _))
 ·obtain rfl:=gS q0
  exact z.d g M' h1 (cb h2 q) hx k3 h4
theorem Lo.t (z:Lo) {st st':ah} (g:dn st st') (hk:kindOf st=kd) {mg ac bc ia ib n i:Nat} {out:Array Keyed} (M:MI L T ma.toList mb.toList out.toList ia ib) (h1:ia+1<ma.size) (h2:ib<mb.size) (h3:n+i≤ia+ib):wpS (model af w) A E s (mlT mg ac bc out ia ib) (lN (tJ st n (i+1)) (nK st n)) st':=by
 refine bF (fH fun st3 g3=>?_)
 have g:=g.trans g3
 have hk':=g.1.trans hk
 obtain ⟨y,hy,my,_⟩:=md h2
 refine cD hy (bF (z.galA hk' (z.P.ob y my) (d8 h1) fun k k1 k2 k3=>?_))
 refine cN (fun _=>?_) fun q0=>?_
 ·have M2:=M.takeA z.P.sa k z.P.ht (fun v hv u hu=>z.winA (lJ hv).choose_spec.2.2.2 hy (k2 v hv) u hu)
  rw [← mv,← gg] at M2
  exact dN (fun q=>b9 (nK.done _ _ _ g (z.last M2 q))) fun q1=>dN (fun q=>b9 (nK.done _ _ _ g (z.doneA M2 q))) fun q2 =>
   z.c g hk' M2 (cb (cb (lO (Nat.le_of_succ_le_succ (b7 (Nat.succ_lt_succ (d8 h1)))) k1) q2) q1) hy k3 (aI h3 (dJ (ci _ _) _))
 ·obtain rfl:=gS q0
  exact z.c g hk' M h1 hy k3 h3
theorem Lo.two (z:Lo) {st:ah} (hk:kindOf st=kd) {n i:Nat} {c:t9} {st':ah} (h:tJ st n i c st'):wpS (model af w) A E s (ml2 c) (lN (tJ st n (i+1)) (nK st n)) st':=by
 cases h with
 |mk out ia ib mg ac bc _ g M h1 h2 h3=>exact cN (fun ux=>z.t g hk M h1 h2 h3) fun ux=>z.t g hk M h1 h2 h3
theorem Lo.zero (z:Lo) {st:ah} (hk:kindOf st=kd) {j:Nat} {c:Dp} {st':ah} (h:MlI st j c st'):wpS (model af w) A E s (ml0 c) (lN (MlI st (j+1)) (MlQ st)) st':=by
 cases h with
 |mk out ia ib mg _ g M h1 h2 h3 =>
  refine jl (tK st' (ia+ib)) (p6 st' (ia+ib)) (.mk _ _ _ _ _ M h1 h2 (aU _)) (fun i c ux h=>z.one (g.1.trans hk) h) (fun c _ h=>?_) fun c _ h=>?_
  ·cases h with
   |mk _ _ _ _ _ _ f1 f2 f3=>exact (y8 f1 f2 (aI (jz _ _) f3)).elim
  cases h with
  |done r c m=>exact b9 (MlQ.mk _ _ _ g m)
  |go out ia2 ib2 ac bc M f1 f2 f3 =>
   refine iv (jl (tJ st (ia2+ib2)) (nK st (ia2+ib2)) (.mk _ _ _ _ _ _ _ g M f1 f2 (aU _)) (fun i c ux h=>z.two hk h) (fun c _ h=>?_) fun c _ h=>?_)
   ·cases h with
    |mk _ _ _ _ _ _ _ _ _ e1 e2 e3=>exact (y8 e1 e2 (aI (jz _ _) e3)).elim
   cases h with
   |done r c _ g m=>exact b9 (MlQ.mk _ _ _ g m)
   |go out ia4 ib4 mg ac bc _ g M e1 e2 e3=>exact bF (fH fun ux g3=>cV (MlI.mk _ _ _ _ _ (g.trans g3) M e1 e2 (aI (cW h3) (aI f3 e3))))
theorem Lo.all (z:Lo) {st:ah} (hk:kindOf st=kd) {Q:Array Keyed→ah→Prop} (h:∀ st' res,dn st st'→fZ L T ma.toList mb.toList res.toList→Q res st'):wpS (model af w) A E s (km ma mb) Q st:=by
 rw [uw]
 obtain ⟨y,hy,my,dy⟩:=md z.P.nb
 rw [iS] at dy
 have M:MI L T ma.toList mb.toList #[y].toList 0 1:=by
  have M:=MI.takeB (la:=ma.toList) (lb:=mb.toList) (out:=[]) (ia:=0) (ib:=0) ⟨.refl _,.nil,fun ux h=>absurd h gv,fun ux h=>absurd h gv⟩ z.P.sb 1 z.asym (by rw [iS];exact fun x hx y hy=>z.P.first x hx y hy)
  have tb:mb.toList.take 1=[y]:=by rw [dy];rfl
  rw [iS,tb] at M
  exact M
 refine iv (cD hy (dN (fun q=>ec (h st _ (dn.refl _) (z.doneB M q))) fun q1=>dN (fun q=>ec (h st _ (dn.refl _) (z.last M q))) fun q2=>iA ?_))
 refine jl (MlI st) (MlQ st) (.mk _ _ _ _ _ (dn.refl _) M (cb z.P.na q2) (cb z.P.nb q1) (aU _)) (fun i c ux h=>z.zero hk h) (fun c _ h=>?_) fun c _ h=>?_
 ·cases h with
  |mk _ _ _ _ _ _ _ f1 f2 f3=>exact (y8 f1 f2 (Nat.le_of_succ_le f3)).elim
 ·cases h with
  |mk r c _ g m=>exact ec (h _ r g m)
structure MH (L:Keyed→Keyed→Bool) (T:Keyed→Keyed→Prop) (la lb:List Keyed) (rev:List Keyed) (na nb:Nat):Prop where
 perm:rev.Perm (la.drop na++lb.drop nb)
 srt:rev.Pairwise (RR L T)
 ra:∀ x∈la.take na,∀ y∈rev,RR L T x y
 rb:∀ x∈lb.take nb,∀ y∈rev,RR L T x y
theorem kh {α:Type} (l:List α) {i k:Nat} (h:i≤k):(l.take k).drop i++l.drop k=l.drop i:=by
 rw [List.drop_take,show l.drop k=(l.drop i).drop (k - i) by rw [kY];congr 1;omega,aG]
theorem jE {α:Type} (l:List α) {i k:Nat} (h:i≤k):l.take k=l.take i++(l.take k).drop i:=by
 conv=>lhs;rw [← aG i (l.take k)]
 rw [List.take_take,bR h]
section
variable {la lb rev:List Keyed} {na nb:Nat}
theorem MH.takeA (h:MH L T la lb rev na nb) (hs:la.Pairwise (RR L T)) {k:Nat} (hk:k≤na) (ha:∀ x y,x∈la→y∈lb→L y x=true→L x y=false)
  (hc:∀ x∈lb.take nb,∀ y∈(la.take na).drop k,L x y=true):MH L T la lb ((la.take na).drop k++rev) k nb:=by
 have hd:(la.take na).Pairwise (RR L T):=hs.sublist (c5 _ _)
 rw [jE la hk,aA] at hd
 refine ⟨?_,?_,?_,?_⟩
 ·refine (h.perm.append_left _).trans ?_
  rw [← ai,kh la hk]
 ·rw [aA]
  exact ⟨hd.2.1,h.srt,fun x hx y hy=>h.ra x (aK hx) y hy⟩
 ·intro x hx y hy
  rcases ay.mp hy with hy|hy
  ·exact hd.2.2 x hx y hy
  ·exact h.ra x (by rw [jE la hk];exact df _ hx) y hy
 ·intro x hx y hy
  rcases ay.mp hy with hy|hy
  ·have:=hc x hx y hy
   exact ⟨ha y x (aJ (aK hy)) (aJ hx) this,.inl this⟩
  ·exact h.rb x hx y hy
theorem MH.takeB (h:MH L T la lb rev na nb) (hs:lb.Pairwise (RR L T)) {k:Nat} (hk:k≤nb) (ht:∀ x∈la,∀ y∈lb,T x y)
  (hc:∀ x∈la.take na,∀ y∈(lb.take nb).drop k,L y x=false):MH L T la lb ((lb.take nb).drop k++rev) na k:=by
 have hd:(lb.take nb).Pairwise (RR L T):=hs.sublist (c5 _ _)
 rw [jE lb hk,aA] at hd
 refine ⟨?_,?_,?_,?_⟩
 ·refine (h.perm.append_left _).trans ?_
  rw [← ai]
  refine (eV _ bA).trans ?_
  rw [ai,kh lb hk]
 ·rw [aA]
  exact ⟨hd.2.1,h.srt,fun x hx y hy=>h.rb x (aK hx) y hy⟩
 ·intro x hx y hy
  rcases ay.mp hy with hy|hy
  ·exact ⟨hc x hx y hy,.inr (ht x (aJ hx) y (aJ (aK hy)))⟩
  ·exact h.ra x hx y hy
 ·intro x hx y hy
  rcases ay.mp hy with hy|hy
  ·exact hd.2.2 x hx y hy
  ·exact h.rb x (by rw [jE lb hk];exact df _ hx) y hy
theorem MH.doneA (h:MH L T la lb rev 0 nb) (hs:lb.Pairwise (RR L T)):fZ L T la lb (la.take 0++lb.take nb++rev):=by
 have h1:=h.perm;rw [iS] at h1
 rw [iQ,List.nil_append]
 refine ⟨?_,?_⟩
 ·refine (h1.append_left _).trans ?_
  rw [← ai]
  refine (eV _ bA).trans ?_
  rw [ai,aG]
 ·rw [aA]
  exact ⟨hs.sublist (c5 _ _),h.srt,h.rb⟩
theorem MH.doneB (h:MH L T la lb rev na 0) (hs:la.Pairwise (RR L T)):fZ L T la lb (la.take na++lb.take 0++rev):=by
 have h1:=h.perm;rw [iS] at h1
 rw [iQ,cA]
 refine ⟨?_,?_⟩
 ·refine (h1.append_left _).trans ?_
  rw [← ai,aG]
 ·rw [aA]
  exact ⟨hs.sublist (c5 _ _),h.srt,h.ra⟩
theorem MH.fst (h:MH L T la lb rev na nb) (hsa:la.Pairwise (RR L T)) (hsb:lb.Pairwise (RR L T)) (hc:∀ x∈lb.take nb,∀ y∈la.take na,RR L T x y):fZ L T la lb (lb.take nb++la.take na++rev):=by
 refine ⟨?_,?_⟩
 ·refine (h.perm.append_left _).trans ?_
  rw [ai,← ai (la.take na),aG]
  refine (bA).trans ?_
  rw [ai]
  refine (bK _ bA).trans ?_
  rw [aG]
 ·rw [aA,aA]
  refine ⟨⟨hsb.sublist (c5 _ _),hsa.sublist (c5 _ _),hc⟩,h.srt,fun x hx y hy=>?_⟩
  rcases ay.mp hx with hx|hx
  ·exact h.rb x hx y hy
  ·exact h.ra x hx y hy
end
theorem iL {a:Array Keyed} {n:Nat} (h0:0<n) (h:n≤a.size):∃ x,a[n - 1]?=some x∧x∈a.toList∧(a.toList.take n).drop (n - 1)=[x]:=by
 refine ⟨a[n - 1],by simp,Array.getElem_mem_toList _,?_⟩
 apply kW
 intro i
 rw [jW,List.getElem?_take]
 cases i with
 |zero=>rw [if_pos (by omega)];simp
 |succ i=>rw [if_neg (by omega)];simp
theorem mu {a:Array Keyed} {n:Nat}:(a.extract 0 n).toList=a.toList.take n:=by
 rw [iT];simp [vx]
theorem o4 {a:Array Keyed} {i n:Nat}:(a.extract i n).toList=(a.toList.take n).drop i:=by
 rw [iT];simp [vx];rw [List.drop_take]
theorem mH {a:Array Keyed} {n:Nat} {y:Keyed} (h:y∈a.toList.take n):∃ j,j<n∧j<a.size∧a[j]?=some y:=by
 obtain ⟨j,hj,rfl⟩:=m6.mp h
 rw [bh,aD] at hj
 exact ⟨j,by omega,by omega,by rw [qF,m8];simp⟩
theorem sh (out:Array Keyed) (x:Keyed):(out.push x).reverse.toList=[x]++out.reverse.toList:=by simp
theorem qk (out c:Array Keyed):(out++c.reverse).reverse.toList=c.toList++out.reverse.toList:=by simp
theorem MH.oneA {a b out:Array Keyed} {na nb:Nat} {x:Keyed} (M:MH L T a.toList b.toList out.reverse.toList na nb) (sa:a.toList.Pairwise (RR L T)) (asym:∀ x y,x∈a.toList→y∈b.toList→L y x=true→L x y=false) (h0:0<na) (hx:a[na - 1]?=some x) (h2:na≤a.size) (hz:∀ z∈b.toList.take nb,L z x=true):MH L T a.toList b.toList (out.push x).reverse.toList (na - 1) nb:=by
 obtain ⟨x',hx',mx,dx⟩:=iL (a:=a) (n:=na) h0 h2
 rw [hx] at hx';cases hx'
 have M':=M.takeA sa (k:=na - 1) (eu _ _) asym (by rw [dx];intro z hz' w hw;rw [aC.mp hw];exact hz z hz')
 rw [dx,← sh] at M';exact M'
theorem MH.oneB {a b out:Array Keyed} {na nb:Nat} {y:Keyed} (M:MH L T a.toList b.toList out.reverse.toList na nb) (sb:b.toList.Pairwise (RR L T)) (ht:∀ x∈a.toList,∀ y∈b.toList,T x y) (h0:0<nb) (hy:b[nb - 1]?=some y) (h2:nb≤b.size) (hz:∀ z∈a.toList.take na,L y z=false):MH L T a.toList b.toList (out.push y).reverse.toList na (nb - 1):=by
 obtain ⟨x',hx',mx,dx⟩:=iL (a:=b) (n:=nb) h0 h2
 rw [hy] at hx';cases hx'
 have M':=M.takeB sb (k:=nb - 1) (eu _ _) ht (by rw [dx];intro z hz' w hw;rw [aC.mp hw];exact hz z hz')
 rw [dx,← sh] at M';exact M'
theorem lY {la lb:List Keyed} {o x y:Array Keyed} {i j:Nat} (h:fZ L T la lb (x.toList.take i++y.toList.take j++o.toList)):fZ L T la lb (x.extract 0 i++y.extract 0 j++o).toList:=by
 rw [gg,gg,mu,mu];exact h
noncomputable abbrev Dr:=Option (Array Keyed)×Nat×Nat×Array Keyed×Nat
noncomputable abbrev Dq:=Option (Array Keyed)×Nat×Nat×Array Keyed×Nat×Nat
noncomputable abbrev ua:=Option (Array Keyed)×Nat×Nat×Array Keyed×Nat×Nat×Nat
noncomputable def lM (out:Array Keyed) (na nb:Nat):Array Keyed:=ma.extract 0 na++mb.extract 0 nb++out.reverse
noncomputable def pB (out:Array Keyed) (na nb:Nat):Array Keyed:=mb.extract 0 nb++ma.extract 0 na++out.reverse
noncomputable def mhAx (mg:Nat) (out:Array Keyed) (na nb ac:Nat):StateT ah Sem (ForInStep Dq):=
 if (na == 0)=true then pure (.done (some (lM out na nb),na,nb,out,ac,0)) else if ac≥mg then pure (.done (none,na,nb,out,ac,0)) else pure (.yield (none,na,nb,out,ac,0))
noncomputable def mhBy (mg:Nat) (out:Array Keyed) (na nb bc:Nat):StateT ah Sem (ForInStep Dq):=
 if (nb == 1)=true then pure (.done (some (pB out na nb),na,nb,out,0,bc)) else if bc≥mg then pure (.done (none,na,nb,out,0,bc)) else pure (.yield (none,na,nb,out,0,bc))
noncomputable def mh1k (mg:Nat) (out:Array Keyed) (na nb ac bc:Nat) (r:Option Bool):StateT ah Sem (ForInStep Dq):=do
 let some aw:=r|pure (.done (some (lM out na nb),na,nb,out,ac,bc))
 if aw=true then elem' ma (na - 1) >>= fun x=>mhAx mg (out.push x) (na - 1) nb (ac+1) else elem' mb (nb - 1) >>= fun y=>mhBy mg (out.push y) na (nb - 1) (bc+1)
noncomputable def mh1 (mg:Nat) (out:Array Keyed) (na nb ac bc:Nat):StateT ah Sem (ForInStep Dq):=elem' mb (nb - 1) >>= fun y=>elem' ma (na - 1) >>= fun x=>lt' y x >>= mh1k mg out na nb ac bc
noncomputable def mhDx (mg ac bc:Nat) (out:Array Keyed) (na nb:Nat):StateT ah Sem (ForInStep ua):=
 if (na == 0)=true then pure (.done (some (lM out na nb),na,nb,out,mg,ac,bc)) else if (decide (ac<7) && decide (bc<7))=true then pure (.done (none,na,nb,out,mg,ac,bc)) else pure (.yield (none,na,nb,out,mg,ac,bc))
noncomputable def mhD (mg ac bc:Nat) (out:Array Keyed) (na nb:Nat):StateT ah Sem (ForInStep ua):=elem' ma (na - 1) >>= fun x=>mhDx mg ac bc (out.push x) (na - 1) nb
noncomputable def mhCz (mg ac bc:Nat) (out:Array Keyed) (na nb:Nat):StateT ah Sem (ForInStep ua):=
 if (nb == 1)=true then pure (.done (some (pB out na nb),na,nb,out,mg,ac,bc)) else if (nb == 0)=true then pure (.done (some (lM out na nb),na,nb,out,mg,ac,bc)) else mhD mg ac bc out na nb
noncomputable def mhCk (mg ac bc:Nat) (out:Array Keyed) (na nb:Nat) (r:Option Nat):StateT ah Sem (ForInStep ua):=do
 let some k:=r|pure (.done (some (lM out na nb),na,nb,out,mg,ac,bc))
 if nb - k > 0 then mhCz mg ac (nb - k) (out++(mb.extract k nb).reverse) na k else mhD mg ac (nb - k) out na nb
noncomputable def mhCy (mg ac bc:Nat) (out:Array Keyed) (na nb:Nat):StateT ah Sem (ForInStep ua):=
 if (nb == 1)=true then pure (.done (some (pB out na nb),na,nb,out,mg,ac,bc)) else elem' ma (na - 1) >>= fun x=>eJ true x mb 0 nb (nb - 1) >>= mhCk mg ac bc out na nb
noncomputable def mhC (mg ac bc:Nat) (out:Array Keyed) (na nb:Nat):StateT ah Sem (ForInStep ua):=elem' mb (nb - 1) >>= fun y=>mhCy mg ac bc (out.push y) na (nb - 1)
noncomputable def mhTz (mg ac bc:Nat) (out:Array Keyed) (na nb:Nat):StateT ah Sem (ForInStep ua):=
 if (na == 0)=true then pure (.done (some (lM out na nb),na,nb,out,mg,ac,bc)) else mhC mg ac bc out na nb
noncomputable def mhTk (mg ac bc:Nat) (out:Array Keyed) (na nb:Nat) (r:Option Nat):StateT ah Sem (ForInStep ua):=do
 let some k:=r|pure (.done (some (lM out na nb),na,nb,out,mg,ac,bc))
 if na - k > 0 then mhTz mg (na - k) bc (out++(ma.extract k na).reverse) k nb else mhC mg (na - k) bc out na nb
noncomputable def mhT (mg ac bc:Nat) (out:Array Keyed) (na nb:Nat):StateT ah Sem (ForInStep ua):=eR mg >>= fun ux=>elem' mb (nb - 1) >>= fun y=>eJ false y ma 0 na (na - 1) >>= mhTk mg ac bc out na nb
noncomputable def mh2 (c:ua):StateT ah Sem (ForInStep ua):=if c.2.2.2.2.1 > 1 then mhT (c.2.2.2.2.1 - 1) c.2.2.2.2.2.1 c.2.2.2.2.2.2 c.2.2.2.1 c.2.1 c.2.2.1 else mhT c.2.2.2.2.1 c.2.2.2.2.2.1 c.2.2.2.2.2.2 c.2.2.2.1 c.2.1 c.2.2.1
noncomputable def mh0c (c:ua):StateT ah Sem (ForInStep Dr):=bD (fun ux=>_) c.1 (fun r=>pure (.done (some r,c.2.1,c.2.2.1,c.2.2.2.1,c.2.2.2.2.1)))
 (fun ux=>eR (c.2.2.2.2.1+1) >>= fun ux=>pure (.yield (none,c.2.1,c.2.2.1,c.2.2.2.1,c.2.2.2.2.1+1)))
noncomputable def mh0b (mg:Nat) (c:Dq):StateT ah Sem (ForInStep Dr):=bD (fun ux=>_) c.1 (fun r=>pure (.done (some r,c.2.1,c.2.2.1,c.2.2.2.1,mg)))
 (fun ux=>(liftM (rule "list.sort.gallop"):StateT ah Sem Unit) >>= fun ux=>forIn [0:ma.size+mb.size] ((none,c.2.1,c.2.2.1,c.2.2.2.1,mg+1,c.2.2.2.2.1,c.2.2.2.2.2):ua) (fun ux=>mh2) >>= mh0c)
noncomputable def mh0 (c:Dr):StateT ah Sem (ForInStep Dr):=forIn [0:ma.size+mb.size] ((none,c.2.1,c.2.2.1,c.2.2.2.1,0,0):Dq) (fun ux d=>mh1 c.2.2.2.2 d.2.2.2.1 d.2.1 d.2.2.1 d.2.2.2.2.1 d.2.2.2.2.2) >>= mh0b c.2.2.2.2
noncomputable def mhEnd (c:Dr):StateT ah Sem (Array Keyed):=bD (fun ux=>_) c.1 (fun r=>pure r) (fun ux=>liftM (unsupported "internal:list.sort.merge-bound":Sem (Array Keyed)))
noncomputable def mhGo (out:Array Keyed):StateT ah Sem (Array Keyed):=
 if (ma.size - 1 == 0)=true then pure (lM out (ma.size - 1) mb.size) else if (mb.size == 1)=true then pure (pB out (ma.size - 1) mb.size) else get >>= fun st=>forIn [0:ma.size+mb.size] ((none,ma.size - 1,mb.size,out,gallopOf st):Dr) (fun ux=>mh0) >>= mhEnd
theorem uy:kq ma mb=((liftM (rule "list.sort.merge-hi"):StateT ah Sem Unit) >>= fun ux=>elem' ma (ma.size - 1) >>= fun x=>mhGo #[x]):=rfl
theorem Lo.lessB (z:Lo) {nb:Nat} {x y:Keyed} (mx:x∈ma.toList) (hy:mb[nb - 1]?=some y) (hl:L y x=true):∀ v∈mb.toList.take nb,L v x=true:=by
 intro v hv
 obtain ⟨j,h1,h2,h3⟩:=mH hv
 rcases dE j (nb - 1) with q|q
 ·cases hq:L v x with
  |true=>rfl
  |false=>rw [z.hc.neg x v y (z.P.oa x mx) (z.P.ob v (aJ hv)) (z.P.ob y (ix hy)) hq (qW z.P.sb h3 hy q).1] at hl;cases hl
 ·obtain rfl:=ce (fW h1) q
  rw [hy] at h3;cases h3;exact hl
theorem Lo.lessA (z:Lo) {na:Nat} {x y:Keyed} (hx:ma[na - 1]?=some x) (my:y∈mb.toList) (hl:L y x=false):∀ v∈ma.toList.take na,L y v=false:=by
 intro v hv
 obtain ⟨j,h1,h2,h3⟩:=mH hv
 rcases dE j (na - 1) with q|q
 ·exact z.hc.neg v x y (z.P.oa v (aJ hv)) (z.P.oa x (ix hx)) (z.P.ob y my) (qW z.P.sa h3 hx q).1 hl
 ·obtain rfl:=ce (fW h1) q
  rw [hx] at h3;cases h3;exact hl
theorem Lo.fst (z:Lo) {out:Array Keyed} {na nb:Nat} (M:MH L T ma.toList mb.toList out.reverse.toList na nb) (h:nb=1):fZ L T ma.toList mb.toList (pB out na nb).toList:=by
 subst h
 refine lY (M.fst z.P.sa z.P.sb fun x hx y hy=>?_)
 have h1:=z.P.first x hx y (aJ hy)
 exact ⟨z.asym y x (aJ hy) (aJ hx) h1,.inl h1⟩
theorem Lo.noA (z:Lo) {out:Array Keyed} {na nb:Nat} (M:MH L T ma.toList mb.toList out.reverse.toList na nb) (h:na=0):fZ L T ma.toList mb.toList (lM out na nb).toList:=by
 subst h;exact lY (M.doneA z.P.sb)
theorem Lo.noB (z:Lo) {out:Array Keyed} {na nb:Nat} (M:MH L T ma.toList mb.toList out.reverse.toList na nb) (h:nb=0):fZ L T ma.toList mb.toList (lM out na nb).toList:=by
 subst h;exact lY (M.doneB z.P.sa)
structure HM (out:Array Keyed) (na nb:Nat):Prop where
 M:MH L T ma.toList mb.toList out.reverse.toList na nb
 a1:0<na
 a2:na≤ma.size
 b1:1<nb
 b2:nb≤mb.size
inductive MhI (st:ah) (j:Nat):Dr→ah→Prop
 |mk (out:Array Keyed) (na nb mg:Nat) (st':ah) (g:dn st st') (H:HM out na nb) (h:na+nb+(j+1)≤ma.size+mb.size):MhI st j (none,na,nb,out,mg) st'
inductive MhQ (st:ah):Dr→ah→Prop
 |mk (r:Array Keyed) (c:Nat×Nat×Array Keyed×Nat) (st':ah) (g:dn st st') (m:fZ L T ma.toList mb.toList r.toList):MhQ st (some r,c) st'
inductive tM (st:ah) (n i:Nat):Dq→ah→Prop
 |mk (out:Array Keyed) (na nb ac bc:Nat) (H:HM out na nb) (h:na+nb+i≤n):tM st n i (none,na,nb,out,ac,bc) st
inductive p7 (st:ah) (n:Nat):Dq→ah→Prop
 |done (r:Array Keyed) (c:Nat×Nat×Array Keyed×Nat×Nat) (m:fZ L T ma.toList mb.toList r.toList):p7 st n (some r,c) st
 |go (out:Array Keyed) (na nb ac bc:Nat) (H:HM out na nb) (h:na+nb+1≤n):p7 st n (none,na,nb,out,ac,bc) st
inductive tL (st:ah) (n i:Nat):ua→ah→Prop
 |mk (out:Array Keyed) (na nb mg ac bc:Nat) (st':ah) (g:dn st st') (H:HM out na nb) (h:na+nb+i≤n):tL st n i (none,na,nb,out,mg,ac,bc) st'
inductive nL (st:ah) (n:Nat):ua→ah→Prop
 |done (r:Array Keyed) (c:Nat×Nat×Array Keyed×Nat×Nat×Nat) (st':ah) (g:dn st st') (m:fZ L T ma.toList mb.toList r.toList):nL st n (some r,c) st'
 |go (out:Array Keyed) (na nb mg ac bc:Nat) (st':ah) (g:dn st st') (H:HM out na nb) (h:na+nb≤n):nL st n (none,na,nb,out,mg,ac,bc) st'
theorem y' {x i n:Nat} (h:x+(i+1)≤n):x+1≤n:=aI (dv (jz 1 i) _) h
theorem vS {a b i n:Nat} (h0:0<a) (h:a+b+i≤n):a - 1+b+(i+1)≤n:=by omega
theorem Cm {a b i n:Nat} (h0:1<b) (h:a+b+i≤n):a+(b - 1)+(i+1)≤n:=by omega
theorem y9 {a b m n x:Nat} (h0:0<a) (h:a+b+(m+n)≤x) (hx:x≤m+n):False:=by omega
theorem Lo.hax (z:Lo) {st:ah} {mg na nb ac n i:Nat} {out:Array Keyed} (M:MH L T ma.toList mb.toList out.reverse.toList na nb) (a2:na≤ma.size) (b1:1<nb) (b2:nb≤mb.size) (h:na+nb+(i+1)≤n):wpS (model af w) A E s (mhAx mg out na nb ac) (lN (tM st n (i+1)) (p7 st n)) st:=
 dN (fun q=>b9 (p7.done _ _ (z.noA M q))) fun q=>have H:HM out na nb:=⟨M,gQ q,a2,b1,b2⟩
  cN (fun ux=>b9 (p7.go _ _ _ _ _ H (y' h))) fun ux=>cV (tM.mk _ _ _ _ _ H h)
theorem Lo.hby (z:Lo) {st:ah} {mg na nb bc n i:Nat} {out:Array Keyed} (M:MH L T ma.toList mb.toList out.reverse.toList na nb) (a1:0<na) (a2:na≤ma.size) (b1:1≤nb) (b2:nb≤mb.size) (h:na+nb+(i+1)≤n):wpS (model af w) A E s (mhBy mg out na nb bc) (lN (tM st n (i+1)) (p7 st n)) st:=
 dN (fun q=>b9 (p7.done _ _ (z.fst M q))) fun q=>have H:HM out na nb:=⟨M,a1,a2,cb b1 (bl q),b2⟩
  cN (fun ux=>b9 (p7.go _ _ _ _ _ H (y' h))) fun ux=>cV (tM.mk _ _ _ _ _ H h)
theorem Lo.hone (z:Lo) {st:ah} (hk:kindOf st=kd) {mg n i:Nat} {c:Dq} {st':ah} (h:tM st n i c st'):wpS (model af w) A E s (mh1 mg c.2.2.2.1 c.2.1 c.2.2.1 c.2.2.2.2.1 c.2.2.2.2.2) (lN (tM st n (i+1)) (p7 st n)) st':=by
 cases h with
 |mk out na nb ac bc H h =>
  obtain ⟨M,a1,a2,b1,b2⟩:=H
  have b0:=d8 b1
  obtain ⟨y,hy,my,_⟩:=iL b0 b2
  obtain ⟨x,hx,mx,_⟩:=iL a1 a2
  exact cD hy (cD hx (z.hc.ltB (z.P.ob y my) (z.P.oa x mx) hk (cN (fun q=>cD hx (z.hax (M.oneA z.P.sa z.asym a1 hx a2 (z.lessB mx hy q)) (aI (eu _ _) a2) b1 b2 (vS a1 h)))
   fun q=>cD hy (z.hby (M.oneB z.P.sb z.P.ht b0 hy b2 (z.lessA hx my (c8.mpr q))) a1 a2 (fW b1) (aI (eu _ _) b2) (Cm b1 h)))))
theorem Lo.hgalA (z:Lo) {st:ah} (hk:kindOf st=kd) {na:Nat} {y:Keyed} (hy:ok y) (h0:0<na) (h2:na≤ma.size) {Q:Option Nat→ah→Prop} (h:∀ k,k≤na→(∀ v∈ma.toList.take k,L y v=false)→(∀ v∈(ma.toList.take na).drop k,L y v=true)→Q (some k) st):wpS (model af w) A E s (eJ false y ma 0 na (na - 1)) Q st:=
 lj (left:=false) z.hc (z.P.sa.sublist (c5 _ _)) (fun x hx=>z.P.oa x (aJ hx)) hy (fun i hi=>by rw [rJ (bO hi (List.length_take_le _ _)),bG,vq]) (by rw [bh,aD,bR h2]) (Nat.sub_lt h0 Nat.one_pos) hk
  fun k k1 k2 k3=>h k k1 (fun v hv=>Bf (k2 v (by rw [List.take_take,bR k1];exact hv))) fun v hv=>Bg (k3 v hv)
theorem Lo.hgalB (z:Lo) {st:ah} (hk:kindOf st=kd) {nb:Nat} {x:Keyed} (hx:ok x) (h0:0<nb) (h2:nb≤mb.size) {Q:Option Nat→ah→Prop} (h:∀ k,k≤nb→(∀ v∈mb.toList.take k,L v x=true)→(∀ v∈(mb.toList.take nb).drop k,L v x=false)→Q (some k) st):wpS (model af w) A E s (eJ true x mb 0 nb (nb - 1)) Q st:=
 lj (left:=true) z.hc (z.P.sb.sublist (c5 _ _)) (fun x hx=>z.P.ob x (aJ hx)) hx (fun i hi=>by rw [rJ (bO hi (List.length_take_le _ _)),bG,vq]) (by rw [bh,aD,bR h2]) (Nat.sub_lt h0 Nat.one_pos) hk
  fun k k1 k2 k3=>h k k1 (fun v hv=>k2 v (by rw [List.take_take,bR k1];exact hv)) k3
theorem Lo.hd (z:Lo) {st st':ah} (g:dn st st') {mg ac bc na nb n i:Nat} {out:Array Keyed} {x:Keyed} (H:HM out na nb) (hx:ma[na - 1]?=some x) (hz:∀ v∈mb.toList.take nb,L v x=true) (h:na+nb+i≤n):wpS (model af w) A E s (mhD mg ac bc out na nb) (lN (tL st n (i+1)) (nL st n)) st':=
 have M':=H.M.oneA z.P.sa z.asym H.a1 hx H.a2 hz
 cD hx (dN (fun q=>b9 (nL.done _ _ _ g (z.noA M' q))) fun q=>have H':HM (out.push x) (na - 1) nb:=⟨M',gQ q,aI (eu _ _) H.a2,H.b1,H.b2⟩
  have h:=vS H.a1 h
  cN (fun ux=>b9 (nL.go _ _ _ _ _ _ _ g H' (aI (ci _ _) h))) fun ux=>cV (tL.mk _ _ _ _ _ _ _ g H' h))
theorem Lo.hcc (z:Lo) {st st':ah} (g:dn st st') (hk:kindOf st'=kd) {mg ac bc na nb n i:Nat} {out:Array Keyed} {y:Keyed} (H:HM out na nb) (hy:mb[nb - 1]?=some y) (hz:∀ v∈ma.toList.take na,L y v=false) (h:na+nb+i≤n):wpS (model af w) A E s (mhC mg ac bc out na nb) (lN (tL st n (i+1)) (nL st n)) st':=by
 obtain ⟨M,a1,a2,b1,b2⟩:=H
 have M':=M.oneB z.P.sb z.P.ht (d8 b1) hy b2 hz
 obtain ⟨x,hx,mx,_⟩:=iL a1 a2
 have f6:=fW b1
 have f7:=eu nb 1
 have f8:=aI f7 b2
 have h4:∀ {k},k≤nb - 1→na+k+i≤n:=fun k1=>aI (dJ (dv (aI k1 f7) _) _) h
 refine cD hy (dN (fun q=>b9 (nL.done _ _ _ g (z.fst M' q))) fun q=>cD hx (bF (z.hgalB hk (z.P.oa x mx) f6 f8 fun k k1 k2 k3=>?_)))
 refine cN (fun _=>?_) fun q0=>?_
 ·have M2:=M'.takeB z.P.sb (k:=k) k1 z.P.ht (fun v hv u hu=>z.lessA hx (aJ (aK hu)) (k3 u hu) v hv)
  rw [← o4,← qk] at M2
  exact dN (fun q=>b9 (nL.done _ _ _ g (z.fst M2 q))) fun q1=>dN (fun q=>b9 (nL.done _ _ _ g (z.noB M2 q))) fun q2 =>
   z.hd g ⟨M2,a1,a2,cb (gQ q2) (bl q1),aI k1 f8⟩ hx k2 (h4 k1)
 ·obtain rfl:=ce k1 (yA (gS q0))
  exact z.hd g ⟨M',a1,a2,cb f6 (bl q),f8⟩ hx k2 (h4 k1)
theorem Lo.ht (z:Lo) {st st':ah} (g:dn st st') (hk:kindOf st=kd) {mg ac bc na nb n i:Nat} {out:Array Keyed} (H:HM out na nb) (h:na+nb+i≤n):wpS (model af w) A E s (mhT mg ac bc out na nb) (lN (tL st n (i+1)) (nL st n)) st':=by
 refine bF (fH fun st3 g3=>?_)
 have g:=g.trans g3
 have hk':=g.1.trans hk
 obtain ⟨y,hy,my,_⟩:=iL (d8 H.b1) H.b2
 refine cD hy (bF (z.hgalA hk' (z.P.ob y my) H.a1 H.a2 fun k k1 k2 k3=>?_))
 refine cN (fun _=>?_) fun q0=>?_
 ·have M2:=H.M.takeA z.P.sa (k:=k) k1 z.asym (fun v hv u hu=>z.lessB (aJ (aK hu)) hy (k3 u hu) v hv)
  rw [← o4,← qk] at M2
  exact dN (fun q=>b9 (nL.done _ _ _ g (z.noA M2 q))) fun q1=>z.hcc g hk' ⟨M2,gQ q1,aI k1 H.a2,H.b1,H.b2⟩ hy k2 (aI (dJ (dJ k1 _) _) h)
 ·obtain rfl:=ce k1 (yA (gS q0))
  exact z.hcc g hk' H hy k2 h
theorem Lo.htwo (z:Lo) {st:ah} (hk:kindOf st=kd) {n i:Nat} {c:ua} {st':ah} (h:tL st n i c st'):wpS (model af w) A E s (mh2 c) (lN (tL st n (i+1)) (nL st n)) st':=by
 cases h with
 |mk out na nb mg ac bc _ g H h=>exact cN (fun ux=>z.ht g hk H h) fun ux=>z.ht g hk H h
theorem Lo.hzero (z:Lo) {st:ah} (hk:kindOf st=kd) {j:Nat} {c:Dr} {st':ah} (h:MhI st j c st'):wpS (model af w) A E s (mh0 c) (lN (MhI st (j+1)) (MhQ st)) st':=by
 cases h with
 |mk out na nb mg _ g H h =>
  refine jl (tM st' (na+nb)) (p7 st' (na+nb)) (.mk _ _ _ _ _ H (aU _)) (fun i c ux h=>z.hone (g.1.trans hk) h) (fun c _ q=>?_) fun c _ q=>?_
  ·cases q with
   |mk _ _ _ _ _ H' f=>exact (y9 H'.a1 f (Nat.add_le_add H.a2 H.b2)).elim
  cases q with
  |done r c m=>exact b9 (MhQ.mk _ _ _ g m)
  |go out na2 nb2 ac bc H2 f =>
   refine iv (jl (tL st (na2+nb2)) (nL st (na2+nb2)) (.mk _ _ _ _ _ _ _ g H2 (aU _)) (fun i c ux h=>z.htwo hk h) (fun c _ q=>?_) fun c _ q=>?_)
   ·cases q with
    |mk _ _ _ _ _ _ _ _ H' f=>exact (y9 H'.a1 f (Nat.add_le_add H2.a2 H2.b2)).elim
   cases q with
   |done r c _ g m=>exact b9 (MhQ.mk _ _ _ g m)
   |go out na4 nb4 mg ac bc _ g H e=>exact bF (fH fun ux g3=>cV (MhI.mk _ _ _ _ _ (g.trans g3) H (aI (dJ e _) (aI (by rw [kP (j+1) 1,← dY];exact dJ f _) h))))
theorem Lo.hall (z:Lo) {st:ah} (hk:kindOf st=kd) {Q:Array Keyed→ah→Prop} (h:∀ st' res,dn st st'→fZ L T ma.toList mb.toList res.toList→Q res st'):wpS (model af w) A E s (kq ma mb) Q st:=by
 rw [uy]
 obtain ⟨x,hx,mx,dx⟩:=iL z.P.na (aU _)
 have la:ma.toList.length≤ma.size:=gR aD
 have lb:mb.toList.length≤mb.size:=gR aD
 have M:MH L T ma.toList mb.toList #[x].reverse.toList (ma.size - 1) mb.size:=by
  have M:=MH.takeA (la:=ma.toList) (lb:=mb.toList) (rev:=[]) (na:=ma.size) (nb:=mb.size)
   ⟨by rw [kX la,kX lb];exact .refl _,.nil,fun ux ux ux h=>absurd h gv,fun ux ux ux h=>absurd h gv⟩ z.P.sa (k:=ma.size - 1) (eu _ _) z.asym
   (by rw [dx];intro v hv y hy;rw [aC.mp hy];exact z.P.last v (aJ hv) x (rj hx (aU _)))
  rw [dx] at M
  exact M
 refine iv (cD hx (dN (fun q=>ec (h st _ (dn.refl _) (z.noA M q))) fun q1=>dN (fun q=>ec (h st _ (dn.refl _) (z.fst M q))) fun q2=>iA ?_))
 refine jl (MhI st) (MhQ st) (.mk _ _ _ _ _ (dn.refl _) ⟨M,gQ q1,eu _ _,cb z.P.nb (bl q2),aU _⟩ (by have:=z.P.na;omega)) (fun i c ux h=>z.hzero hk h) (fun c _ h=>?_) fun c _ h=>?_
 ·cases h with
  |mk _ _ _ _ _ _ H f=>exact (y9 H.a1 (Nat.le_of_succ_le f) (aU _)).elim
 ·cases h with
  |mk r c _ g m=>exact ec (h _ r g m)
theorem p9 (hc:nN af w A E s kd ok L) {a b:Array Keyed} (P:MP ok L T a b) {st:ah} (hkd:kindOf st=kd) {Q:Array Keyed→ah→Prop}
  (h:∀ st' res,dn st st'→fZ L T a.toList b.toList res.toList→Q res st'):wpS (model af w) A E s (km a b) Q st∧wpS (model af w) A E s (kq a b) Q st:=
 have q:Ff a b:=eh fun n=>eX (p:=fun x:Array Keyed×Array Keyed=>¬ Ff x.1 x.2) ⟨(a,b),n⟩ fun P ux ux hk h=>⟨Lo.all ⟨hc,P⟩ hk h,Lo.hall ⟨hc,P⟩ hk h⟩
 q P st Q hkd h
set_option maxHeartbeats 4000000
theorem qV {α:Type} {p q:List α} {a b:α}:(p++a::q).set p.length b=p++b::q:=by
 rw [List.set_append_right _ _ (aU _),vw,List.set_cons_zero]
theorem pS {b:Nat} {post:List Keyed} (m:List Keyed):∀ (k:Nat) (pre mid:List Keyed) (arr:Array Keyed),b+k=pre.length→arr.toList=pre++mid++post→mid.length=m.length →
  ((m.zipIdx k).foldl (fun a (p:Keyed×Nat)=>a.setIfInBounds (b+p.2) p.1) arr).toList=pre++m++post:=by
 induction m with
 |nil=>intro k pre mid arr hb h hl;rw [gF hl] at h;exact h
 |cons x m ih =>
  intro k pre mid arr hb h hl
  cases mid with
  |nil=>cases hl
  |cons y mid =>
   rw [List.zipIdx_cons,List.foldl_cons,ih (k+1) (pre++[x]) mid _ (by rw [← dY,hb,au];rfl) ?_ (Nat.succ.inj hl)]
   ·rw [ai pre];rfl
   ·rw [Array.toList_setIfInBounds,h,hb,ai,List.cons_append,qV,ai (pre++[x]),ai pre];rfl
theorem xe (m pre mid post:List Keyed) (arr:Array Keyed) (h:arr.toList=pre++mid++post) (hl:mid.length=m.length) :
  (m.zipIdx.foldl (fun a (p:Keyed×Nat)=>a.setIfInBounds (pre.length+p.2) p.1) arr).toList=pre++m++post:=pS m 0 pre mid arr rfl h hl
section
theorem wM {pre l post:List Keyed} {arr:Array Keyed} (h:arr.toList=pre++l++post) {i:Nat} (hi:i<l.length):arr[pre.length+i]?=l[i]?:=by
 rw [← bG,h,ai,dg (by (exact ci _ _)),show pre.length+i - pre.length=i by lia,fO hi]
theorem BQ {st st':ah} {Q:PUnit→ah→Prop} (h:Q ⟨⟩ st'):wpS (model af w) A E s (set st':StateT ah Sem PUnit) Q st:=by
 unfold wpS;rw [StateT.run_set];exact aB ⟨rfl,h⟩
theorem wO {p m q:List Keyed} {a:Array Keyed} (h:a.toList=p++m++q) {i j:Nat} (hi:i=p.length) (hj:j=p.length+m.length):(a.extract i j).toList=m:=by
 subst hi;subst hj
 rw [iT,h];simp only [vx]
 rw [ai,List.drop_left,Nat.add_sub_cancel_left,List.take_left]
theorem rV (hc:nN af w A E s kd ok L) {st:ah} {i p1 p2:Nat} {pre la lb post:List Keyed} {Q:Bool→ah→Prop} (hkd:kindOf st=kd) (hf:dD st=none)
  (harr:(arrOf st).toList=pre++la++lb++post) (hp1:(br st)[i]?=some (pre.length,la.length,p1)) (Fl:(br st)[i+1]?=some (pre.length+la.length,lb.length,p2))
  (sa:la.Pairwise (RR L T)) (sb:lb.Pairwise (RR L T)) (oa:∀ x∈la,ok x) (ob:∀ x∈lb,ok x) (ht:∀ x∈la,∀ y∈lb,T x y) (na:1≤la.length) (nb:1≤lb.length)
  (h:∀ st' res,kindOf st'=kd→dD st'=none→br st'=((br st).setIfInBounds i (pre.length,la.length+lb.length,p1)).eraseIdxIfInBounds (i+1) →
   (arrOf st').toList=pre++res++post→fZ L T la lb res→Q true st'):wpS (model af w) A E s (mergeAt' i) Q st:=by
 rw [sw]
 refine iA ?_
 rw [hp1,Fl]
 dsimp only
 refine bF (BQ ?_)
 have hA:(arrOf st).toList=pre++la++(lb++post):=by rw [harr];simp
 have hB:(arrOf st).toList=(pre++la)++lb++post:=harr
 have getA:∀ j,j<la.length→(arrOf st)[pre.length+j]?=la[j]?:=fun j hj=>wM hA hj
 have getB:∀ j,j<lb.length→(arrOf st)[pre.length+la.length+j]?=lb[j]?:=fun j hj=>by
  have:=wM hB hj;rwa [au] at this
 obtain ⟨y0,hy0⟩:∃ y0,lb[0]?=some y0:=⟨lb[0],by simp⟩
 have my0:y0∈lb:=aE hy0
 have hy0':(arrOf st)[pre.length+la.length]?=some y0:=by have:=getB 0 (by lia);rwa [Nat.add_zero,hy0] at this
 refine cD hy0' ?_
 have le0:∀ y∈lb,L y y0=false:=fun y hy=>by
  obtain ⟨j,e⟩:=lQ.mp hy
  exact uB hc sb ob hy0 e (dw _)
 refine bF (lj (left:=false) hc sa oa (ob y0 my0) getA rfl na hkd fun k k1 k2 k3=>?_)
 dsimp only
 have k2':∀ x∈la.take k,∀ y∈lb,L y x=false:=fun x hx y hy=>hc.neg x y0 y (oa x (aJ hx)) (ob y0 my0) (ob y hy) (Bf (k2 x hx)) (le0 y hy)
 have k3':∀ x∈la.drop k,L y0 x=true:=fun x hx=>Bg (k3 x hx)
 have fin:(∀ x∈la,∀ y∈lb,L y x=false)→fZ L T la lb (la++lb):=fun hh =>
  ⟨pP _,aA.mpr ⟨sa,sb,fun x hx y hy=>⟨hh x hx y hy,.inr (ht x hx y hy)⟩⟩⟩
 have whole:(arrOf st).toList=pre++(la++lb)++post:=by rw [harr,ai pre]
 split
 ·rename_i q
  rw [cB (yA (eq_of_beq q))] at k2'
  exact ec (h _ (la++lb) hkd hf rfl whole (fin k2'))
 rename_i q
 have hk:k<la.length:=Nat.lt_of_sub_ne_zero (EZ q)
 have l1:=Nat.sub_lt na Nat.one_pos
 obtain ⟨xl,hxl⟩:∃ x,la[la.length - 1]?=some x:=⟨_,aO l1⟩
 have mxl:xl∈la:=aE hxl
 have leL:∀ x∈la,L xl x=false:=fun x hx=>by
  obtain ⟨j,e⟩:=lQ.mp hx
  exact uB hc sa oa e hxl (fW (aF.mp e).1)
 refine cD (x:=xl) (by rw [dY,cY k1,Nat.add_sub_assoc na,getA _ l1];exact hxl) ?_
 refine bF (lj (left:=true) hc sb ob (oa _ mxl) getB rfl (Nat.sub_lt nb Nat.one_pos) hkd fun m m1 m2 m3=>?_)
 dsimp only
 have m3':∀ x∈la,∀ y∈lb.drop m,L y x=false:=fun x hx y hy=>hc.neg x xl y (oa x hx) (oa _ mxl) (ob y (aK hy)) (leL x hx) (m3 y hy)
 split
 ·rename_i q2
  have q2':m=0:=eq_of_beq q2
  subst q2'
  exact ec (h _ (la++lb) hkd hf rfl whole (fin m3'))
 rename_i q2
 have hm:0<m:=gQ (EZ q2)
 have lk:(pre++la.take k).length=pre.length+k:=by rw [au,bh,bR k1]
 have ex:((arrOf st).extract (pre.length+k) (pre.length+la.length)).toList=la.drop k:=wO (p:=pre++la.take k) (q:=lb++post) (by rw [ai pre (la.take k),aG];exact hA) lk.symm (by rw [lk,bp,dY,cY k1])
 have ey:((arrOf st).extract (pre.length+la.length) (pre.length+la.length+m)).toList=lb.take m:=wO (p:=pre++la) (q:=lb.drop m++post) (by rw [ai (pre++la) (lb.take m),← ai (lb.take m),aG,← ai (pre++la)];exact hB) au.symm (by rw [au,bh,bR m1])
 have zx:((arrOf st).extract (pre.length+k) (pre.length+la.length)).size=la.length - k:=by rw [← aD,ex,bp]
 have zy:((arrOf st).extract (pre.length+la.length) (pre.length+la.length+m)).size=m:=by rw [← aD,ey,bh,bR m1]
 have MPx:MP ok L T ((arrOf st).extract (pre.length+k) (pre.length+la.length)) ((arrOf st).extract (pre.length+la.length) (pre.length+la.length+m)):=by
  refine ⟨?_,?_,?_,?_,?_,zx▸ig hk,zy.symm▸hm,?_,?_⟩
  ·rw [ex];exact sa.sublist (c6 _ _)
  ·rw [ey];exact sb.sublist (c5 _ _)
  ·rw [ex];exact fun x hx=>oa x (aK hx)
  ·rw [ey];exact fun x hx=>ob x (aJ hx)
  ·rw [ex,ey];exact fun x hx y hy=>ht x (aK hx) y (aJ hy)
  ·rw [ex,ey]
   intro y hy x hx
   obtain ⟨j,j1,e⟩:=kr hy
   rw [Nat.lt_one_iff.mp j1,rJ hm,hy0] at e
   cases e
   exact k3' x hx
  ·rw [ex,ey,zx]
   intro y hy x hx
   obtain ⟨j,j1,j2,e⟩:=kt hx
   rw [bp] at j2
   rw [jW,ce (fW j2) j1,← Nat.add_sub_assoc (ig hk),cY k1,hxl] at e
   cases e
   exact m2 y hy
 have last:∀ (res:Array Keyed),fZ L T ((arrOf st).extract (pre.length+k) (pre.length+la.length)).toList ((arrOf st).extract (pre.length+la.length) (pre.length+la.length+m)).toList res.toList →
   fZ L T la lb (la.take k++res.toList++lb.drop m)∧(res.toList.zipIdx.foldl (fun a (p:Keyed×Nat)=>a.setIfInBounds (pre.length+k+p.2) p.1) (arrOf st)).toList=pre++(la.take k++res.toList++lb.drop m)++post:=by
  intro res hm'
  rw [ex,ey] at hm'
  refine ⟨⟨?_,?_⟩,?_⟩
  ·have h1:(la.take k++res.toList++lb.drop m).Perm (la.take k++(la.drop k++lb.take m)++lb.drop m):=(hm'.1.append_left _).append_right _
   refine h1.trans ?_
   rw [← ai,aG,ai,aG]
  ·have memres:∀ x,x∈res.toList→x∈la.drop k∨x∈lb.take m:=fun x hx=>ay.mp (hm'.1.mem_iff.mp hx)
   rw [aA,aA]
   refine ⟨⟨sa.sublist (c5 _ _),hm'.2,fun x hx y hy=>?_⟩,sb.sublist (c6 _ _),fun x hx y hy=>?_⟩
   ·rcases memres y hy with q|q
    ·have h1:=sa;rw [← aG k la,aA] at h1
     exact h1.2.2 x hx y q
    ·exact ⟨k2' x hx y (aJ q),.inr (ht x (aJ hx) y (aJ q))⟩
   ·rcases ay.mp hx with hx|hx
    ·exact ⟨k2' x hx y (aK hy),.inr (ht x (aJ hx) y (aK hy))⟩
    ·rcases memres x hx with q|q
     ·exact ⟨m3' x (aK q) y hy,.inr (ht x (aK q) y (aK hy))⟩
     ·have h1:=sb;rw [← aG m lb,aA] at h1
      exact h1.2.2 x q y hy
  ·have h1:=xe res.toList (pre++la.take k) (la.drop k++lb.take m) (lb.drop m++post) (arrOf st) (by
    rw [harr]
    have e1:la++(lb++post)=List.take k la++(List.drop k la++(List.take m lb++(List.drop m lb++post))):=by
     rw [← ai (List.take m lb),aG,← ai (List.take k la),aG]
    simp [ai,e1]) (by rw [hm'.1.length_eq])
   rw [au,bh,bR k1] at h1
   rw [h1];simp [ai]
 have tail:∀ (m':StateT ah Sem (Array Keyed)) ,wpS (model af w) A E s m' (fun res st'=>dn (nQ st (((br st).setIfInBounds i (pre.length,la.length+lb.length,p1)).eraseIdxIfInBounds (i+1))) st'∧fZ L T ((arrOf st).extract (pre.length+k) (pre.length+la.length)).toList ((arrOf st).extract (pre.length+la.length) (pre.length+la.length+m)).toList res.toList)
    (nQ st (((br st).setIfInBounds i (pre.length,la.length+lb.length,p1)).eraseIdxIfInBounds (i+1))) →
   wpS (model af w) A E s (do
    let merged ← m'
    modify fun s=>setArr s (merged.toList.zipIdx.foldl (fun a (p:Keyed×Nat)=>a.setIfInBounds (pre.length+k+p.2) p.1) (arrOf s))
    return (dD (← get)).isNone) Q (nQ st (((br st).setIfInBounds i (pre.length,la.length+lb.length,p1)).eraseIdxIfInBounds (i+1))):=by
  intro m' hm'
  refine bF (wpS_mono hm' fun res st' ⟨hg,ho⟩=>?_)
  refine bF (wpS_modify (bF (wpS_get (ec ?_))))
  have hf':dD st'=none:=hg.2.2.2.trans hf
  have ha':arrOf st'=arrOf st:=hg.2.1
  show Q (dD st').isNone _
  rw [hf']
  have hl:=last res ho
  refine h _ _ (hg.1.trans hkd) hf' hg.2.2.1 ?_ hl.1
  show (res.toList.zipIdx.foldl (fun a (p:Keyed×Nat)=>a.setIfInBounds (pre.length+k+p.2) p.1) (arrOf st')).toList=_
  rw [ha'];exact hl.2
 split
 ·exact tail _ ((p9 (st:=nQ st (((br st).setIfInBounds i (pre.length,la.length+lb.length,p1)).eraseIdxIfInBounds (i+1))) hc MPx hkd fun st' res hg ho=>And.intro hg ho).1)
 ·exact tail _ ((p9 (st:=nQ st (((br st).setIfInBounds i (pre.length,la.length+lb.length,p1)).eraseIdxIfInBounds (i+1))) hc MPx hkd fun st' res hg ho=>And.intro hg ho).2)
end
theorem uC {α:Type} {p m q:List α} {k:Nat} (i:Nat) (h:i<m.length) (hk:k=p.length+i):(p++m++q)[k]?=m[i]?:=by
 subst hk
 rw [ai,dg (by (exact ci _ _)),show p.length+i - p.length=i by lia,fO h]
theorem vU {α:Type} {p m q:List α} {k:Nat} (h:k<p.length):(p++m++q)[k]?=p[k]?:=by
 rw [ai,fO h]
theorem sB {α:Type} {p m q:List α} {k:Nat} (i:Nat) (hk:k=p.length+m.length+i):(p++m++q)[k]?=q[i]?:=by
 subst hk
 rw [dg (by rw [au];(exact ci _ _)),au,show p.length+m.length+i - (p.length+m.length)=i by lia]
theorem sr {pre mid post:List Keyed} {xs:Array Keyed} (h:xs.toList=pre++mid++post) {i j:Nat} (hi:i=pre.length) (hj:j=pre.length+mid.length) :
  (mirror xs i j ((j - i) / 2)).toList=pre++mid.reverse++post:=by
 subst hi;subst hj
 have hz:pre.length+mid.length≤xs.size:=by rw [← aD,h,au,au];exact ci _ _
 apply kW
 intro k
 rw [bG,getElem?_mirror_all hz,← bG,← bG,h]
 rcases dE k pre.length with q|q
 ·rw [if_neg fun w=>ba _ (bO q w.1),vU q,vU q]
 obtain ⟨m,rfl⟩:=tI q
 rcases dE m mid.length with q2|q2
 ·rw [if_pos ⟨q,Nat.add_lt_add_left q2 _⟩,uC m (by rw [oi];exact q2) rfl,List.getElem?_reverse q2]
  refine uC _ ?_ ?_ <;> lia
 ·obtain ⟨n,rfl⟩:=tI q2
  rw [if_neg fun w=>ba _ (bO (Nat.lt_of_add_lt_add_left w.2) q2),sB n (dY _ _ _).symm,sB n (by rw [oi,dY])]
theorem yR {α:Type} {p q:List α} {a b:α} {xs:Array α} (h:xs.toList=p++a::b::q):(xs.swapIfInBounds (p.length+1) p.length).toList=p++b::a::q:=by
 have e:xs=(p++a::b::q).toArray:=by rw [← h,m7]
 subst e
 unfold Array.swapIfInBounds
 rw [dif_pos (by simp),dif_pos (by simp)]
 unfold Array.swap
 simp only [Array.toList_set,List.getElem_toArray]
 have h1:(p++a::b::q)[p.length]'(by simp)=a:=by rw [List.getElem_append_right (aU _)];simp
 have h2:(p++a::b::q)[p.length+1]'(by simp)=b:=by rw [List.getElem_append_right (fV _)];simp
 rw [h1,h2]
 have e1:p++a::b::q=(p++[a])++b::q:=by simp
 have e2:p.length+1=(p++[a]).length:=by simp
 rw [e1,e2,qV,ai]
 exact qV
theorem bub {post P:List Keyed} {z:Keyed} {xs:Array Keyed} (D C:List Keyed) (h:xs.toList=P++(C++D++[z])++post):(bubble xs (P.length+(C++D).length) D.length).toList=P++(C++[z]++D)++post:=by
 induction D generalizing C with
 |nil=>simpa [bubble] using h
 |cons c D ih =>
  have:=ih (C++[c]) (by rw [h];simp)
  rw [show (C++[c]++D)=C++c::D by simp] at this
  rw [bj,bubble_succ]
  have e:P.length+(C++c::D).length - D.length=(P++C).length+1:=by simp only [au,bj];lia
  rw [e,Fd,yR (a:=c) (b:=z) (q:=D++post) (by rw [this];simp)]
  simp
theorem tC {pre S post:List Keyed} {z:Keyed} {xs:Array Keyed} (h:xs.toList=pre++(S++[z])++post) {l:Nat} (_hl:l≤S.length) :
  (bubble xs (pre.length+S.length) (pre.length+S.length - (pre.length+l))).toList=pre++(S.take l++[z]++S.drop l)++post:=by
 have:=bub (S.drop l) (S.take l) (z:=z) (P:=pre) (post:=post) (xs:=xs) (by rw [aG];exact h)
 rw [aG,bp] at this
 rw [Nat.add_sub_add_left]
 exact this
section
theorem mj (hc:nN af w A E s kd ok L) {st:ah} {i j:Nat} {x y:Keyed} {Q:Option Bool→ah→Prop} (hi:(arrOf st)[i]?=some x) (hj:(arrOf st)[j]?=some y) (ox:ok x) (oy:ok y) (hkd:kindOf st=kd)
  (h:Q (some (L x y)) st):wpS (model af w) A E s (ltAt' i j) Q st:=by
 rw [ltAt'_eq]
 refine bF (wpS_get ?_)
 exact bF (oU hi (bF (oU hj (hc.lt st x y Q ox oy hkd h))))
theorem qN {st:ah} {i j:Nat} {pre mid post:List Keyed} {Q:Unit→ah→Prop} (h:(arrOf st).toList=pre++mid++post) (hi:i=pre.length) (hj:j=pre.length+mid.length)
  (hq:∀ xs:Array Keyed,xs.toList=pre++mid.reverse++post→Q () (setArr st xs)):wpS (model af w) A E s (sg i j) Q st:=by
 rw [reverseSlice'_eq]
 exact wpS_modify (hq _ (sr h hi hj))
theorem yJ {st:ah} {src dst:Nat} {pre S post:List Keyed} {z:Keyed} {l:Nat} {Q:Unit→ah→Prop} (h:(arrOf st).toList=pre++(S++[z])++post) (hs:src=pre.length+S.length) (hd:dst=pre.length+l) (hl:l≤S.length)
  (hq:∀ xs:Array Keyed,xs.toList=pre++(S.take l++[z]++S.drop l)++post→Q () (setArr st xs)):wpS (model af w) A E s (moveDown' src dst) Q st:=by
 subst hs;subst hd
 rw [moveDown'_eq]
 exact wpS_modify (hq _ (tC h hl))
theorem irr (hc:nN af w A E s kd ok L) {x:Keyed} (ox:ok x):L x x=false:=by
 cases q:L x x with
 |false=>rfl
 |true=>have:=hc.asym x x ox ox q;rw [q] at this;cases this
theorem Cb (hc:nN af w A E s kd ok L) {run:List Keyed} {e z:Keyed} (hs:run.Pairwise (RR L T)) (he:run.getLast?=some e) (or:∀ x∈run,ok x) (oz:ok z) (hl:L z e=false) (ht:∀ x∈run,T x z) :
  (run++[z]).Pairwise (RR L T):=by
 rw [aA]
 refine ⟨hs,by simp,fun x hx y hy=>?_⟩
 simp at hy;subst hy
 refine ⟨?_,.inr (ht x hx)⟩
 obtain ⟨r,rfl⟩:=List.getLast?_eq_some_iff.mp he
 rw [aA] at hs
 rcases ay.mp hx with q|q
 ·exact hc.neg x e y (or x hx) (or e (by simp)) oz (hs.2.2 x q e (by simp)).1 hl
 ·simp at q;subst q;exact hl
theorem kB {pre run rest:List Keyed} {z:Keyed} {xs:Array Keyed} (h:xs.toList=pre++run++(z::rest)) {n:Nat} (hn:n=run.length):xs[pre.length+n]?=some z:=by
 subst hn
 rw [← bG,h,dg (by rw [au];(exact aU _)),au,show pre.length+run.length - (pre.length+run.length)=0 by lia];rfl
theorem mO {pre run rest:List Keyed} {e:Keyed} {xs:Array Keyed} (h:xs.toList=pre++run++rest) (he:run.getLast?=some e) {n:Nat} (hn:n=run.length):xs[pre.length+n - 1]?=some e:=by
 obtain ⟨r,rfl⟩:=List.getLast?_eq_some_iff.mp he
 subst hn
 rw [← bG,h,fO (by simp),dg (by simp),dg (by simp)]
 simp
end
noncomputable def iO (kd:pR) (st st':ah):Prop:=kindOf st'=kd∧dD st'=none∧br st'=br st
theorem iO.arr {st st':ah} (h:iO kd st st') (xs:Array Keyed):iO kd st (setArr st' xs):=h
noncomputable def Bv (pre run rest:List Keyed) (n:Nat):Prop:=n≤run.length+rest.length→run.length≤n→1≤run.length→run.Pairwise (RR L T)→(∀ x∈run,ok x)→(∀ x∈rest,ok x)→(∀ x∈run,∀ y∈rest,T x y)→rest.Pairwise T→∀ (st:ah) (Q:Bool→ah→Prop),iO kd st st→(arrOf st).toList=pre++run++rest →
 (∀ st' run',iO kd st st'→(arrOf st').toList=pre++run'++rest.drop (n - run.length)→run'.Perm (run++rest.take (n - run.length))→run'.Pairwise (RR L T)→Q true st')→wpS (model af w) A E s (t8 pre.length n run.length) Q st
noncomputable abbrev IPar:=List Keyed×List Keyed×List Keyed×Nat
noncomputable def Cy:IPar:=ik fun x=>¬ Bv x.1 x.2.1 x.2.2.1 x.2.2.2
noncomputable def ip:List Keyed:=Cy.1
noncomputable def ir:List Keyed:=Cy.2.1
noncomputable def it:List Keyed:=Cy.2.2.1
noncomputable def iN:Nat:=Cy.2.2.2
structure Bw:Prop where
 hc:nN af w A E s kd ok L
 hn:iN≤ir.length+it.length
 hr:ir.length≤iN
 h1:1≤ir.length
 hs:ir.Pairwise (RR L T)
 or:∀ x∈ir,ok x
 ot:∀ x∈it,ok x
 ht:∀ x∈ir,∀ y∈it,T x y
 hT:it.Pairwise T
noncomputable abbrev IS:=Option Bool×Nat×Nat
noncomputable abbrev IU:=Option Bool×Unit
noncomputable def inK (l r m:Nat) (q:Option Bool):StateT ah Sem (ForInStep IS):=do
 let some less:=q|pure (.done (some false,l,r))
 if less=true then pure (.yield (none,l,m)) else pure (.yield (none,m+1,r))
noncomputable def inB (k l r:Nat):StateT ah Sem (ForInStep IS):=if l≥r then pure (.done (none,l,r)) else ltAt' (ip.length+k) (ip.length+(l+r) / 2) >>= inK l r ((l+r) / 2)
noncomputable def inE (k:Nat) (c:IS):StateT ah Sem (ForInStep IU):=bD (fun ux=>_) c.1 (fun r=>pure (.done (some r,()))) (fun ux=>moveDown' (ip.length+k) (ip.length+c.2.1) >>= fun ux=>pure (.yield (none,())))
noncomputable def inT (k:Nat):StateT ah Sem (ForInStep IU):=forIn [0:k] ((none,0,k):IS) (fun ux c=>inB k c.2.1 c.2.2) >>= inE k
noncomputable def inEnd (c:IU):StateT ah Sem Bool:=bD (fun ux=>_) c.1 (fun r=>pure r) (fun ux=>pure true)
theorem p5:t8 ip.length iN ir.length=(forIn [max ir.length 1:iN] ((none,()):IU) (fun k ux=>inT k) >>= inEnd):=rfl
theorem vT {β γ:Type} {a n:Nat} {f:Nat→β→StateT ah Sem (ForInStep β)} {k:β→StateT ah Sem γ} (han:a≤n) (I:Nat→β→ah→Prop) (Q:β→ah→Prop) {c:β} {st:ah} {R:γ→ah→Prop} (init:I a c st) (step:∀ i c st,i<n→I i c st→wpS (model af w) A E s (f i c) (lN (I (i+1)) Q) st)
  (fin:∀ c st,I n c st→Q c st) (h:∀ c st,Q c st→wpS (model af w) A E s (k c) R st):wpS (model af w) A E s (forIn [a:n] c f >>= k) R st:=
 bF (wpS_mono (wpS_forRange I (fun i c st ux hn hi=>wpS_mono (step i c st hn hi) fun r st' h'=>by cases r <;> exact h') (fun c st hi=>fin c st (by rw [Nat.max_eq_right han] at hi;exact hi)) init) h)
structure IR (st:ah) (k:Nat) (S:List Keyed):Prop where
 h1:ir.length≤k
 arr:(arrOf st).toList=ip++S++it.drop (k - ir.length)
 perm:S.Perm (ir++it.take (k - ir.length))
 srt:S.Pairwise (RR L T)
structure IZ (st:ah) (k:Nat) (S:List Keyed) (z:Keyed):Prop where
 hk:kindOf st=kd
 len:S.length=k
 at_:(arrOf st)[ip.length+k]?=some z
 arr:∃ r,(arrOf st).toList=ip++S++r
 oz:ok z
 oS:∀ x∈S,ok x
 tS:∀ x∈S,T x z
 srt:S.Pairwise (RR L T)
theorem Bw.next (z:Bw) {st:ah} (hk:kindOf st=kd) {k:Nat} {S:List Keyed} (h:IR st k S) (hn:k<iN):∃ y,IZ st k S y∧(arrOf st).toList=ip++(S++[y])++it.drop (k+1 - ir.length)∧it.take (k+1 - ir.length)=it.take (k - ir.length)++[y]:=by
 have e0:k+1 - ir.length=(k - ir.length)+1:=Nat.succ_sub h.h1
 have hi:k - ir.length<it.length:=(Nat.sub_lt_iff_lt_add' h.h1).mpr (bO hn z.hn)
 have lS:S.length=k:=by rw [h.perm.length_eq,au,bh,bR (b7 hi),cY h.h1]
 have ha:=h.arr
 have d1:it.drop (k - ir.length)=it[k - ir.length]::it.drop (k - ir.length+1):=cP hi
 rw [d1] at ha
 have mz:it[k - ir.length]∈it:=List.getElem_mem hi
 have hT:=z.hT
 rw [← aG (k - ir.length) it,d1,aA] at hT
 have mS:∀ x∈S,ok x∧T x it[k - ir.length]:=fun x hx=>(ay.mp (h.perm.mem_iff.mp hx)).elim (fun q=>⟨z.or x q,z.ht x q _ mz⟩) fun q=>⟨z.ot x (aJ q),hT.2.2 x q _ (.head _)⟩
 refine ⟨_,⟨hk,lS,kB ha lS.symm,⟨_,ha⟩,z.ot _ mz,fun x hx=>(mS x hx).1,fun x hx=>(mS x hx).2,h.srt⟩,?_,?_⟩
 ·rw [ha,e0,← ai ip,ai (ip++S),ej]
 ·rw [e0,cZ hi]
theorem IZ.get {st:ah} {k:Nat} {S:List Keyed} {y:Keyed} (h:IZ st k S y) {m:Nat} (hm:m<k):∃ x,(arrOf st)[ip.length+m]?=some x∧S[m]?=some x∧x∈S:=by
 obtain ⟨r,ha⟩:=h.arr
 have hm:m<S.length:=by rw [h.len];exact hm
 exact ⟨S[m],by rw [← bG,ha,uC m hm rfl];exact aO hm,aO hm,List.getElem_mem hm⟩
theorem im {l r:Nat} (h:¬ l≥r):l≤(l+r) / 2∧(l+r) / 2<r:=
 have h:=dj h
 ⟨(Nat.le_div_iff_mul_le (by decide)).mpr (by rw [Nat.mul_two];exact dv (b7 h) _),Nat.div_lt_of_lt_mul (by rw [Nat.two_mul];exact Nat.add_lt_add_right h _)⟩
inductive IbI (S:List Keyed) (y:Keyed) (k:Nat) (st:ah) (i:Nat):IS→ah→Prop
 |mk (l r:Nat) (b1:l≤r) (b2:r≤k) (b3:r+i≤k+l) (b4:∀ (m:Nat) x,S[m]?=some x→m<l→L y x=false) (b5:∀ (m:Nat) x,S[m]?=some x→r≤m→L y x=true):IbI S y k st i (none,l,r) st
inductive IbQ (S:List Keyed) (y:Keyed) (k:Nat) (st:ah):IS→ah→Prop
 |mk (l:Nat) (b2:l≤k) (b4:∀ (m:Nat) x,S[m]?=some x→m<l→L y x=false) (b5:∀ (m:Nat) x,S[m]?=some x→l≤m→L y x=true):IbQ S y k st (none,l,l) st
theorem Bw.bin (z:Bw) {S:List Keyed} {y:Keyed} {k:Nat} {st:ah} (h:IZ st k S y) {i:Nat} {c:IS} {st':ah} (q:IbI S y k st i c st'):wpS (model af w) A E s (inB k c.2.1 c.2.2) (lN (IbI S y k st (i+1)) (IbQ S y k st)) st':=by
 cases q with
 |mk l r b1 b2 b3 b4 b5 =>
  refine cN (fun q=>?_) fun q=>?_
  ·obtain rfl:=ce b1 q
   exact b9 (.mk _ b2 b4 b5)
  obtain ⟨m1,m2⟩:=im q
  obtain ⟨x,hx1,hx2,hx3⟩:=h.get (bO m2 b2)
  have pw:∀ {i j:Nat} {x y:Keyed},S[i]?=some x→S[j]?=some y→i<j→L y x=false:=fun {i j x y} hi hj hij=>by
   obtain ⟨h1,rfl⟩:=aF.mp hi
   obtain ⟨h2,rfl⟩:=aF.mp hj
   exact (dp.mp h.srt i j h1 h2 hij).1
  have ox:=h.oS x hx3
  refine bF (mj z.hc h.at_ hx1 h.oz ox h.hk (cN (fun e=>cV (.mk _ _ m1 (aI (b7 m2) b2) (gm2 m2 b3) b4 fun j v ev q=>?_)) fun e=>cV (.mk _ _ m2 b2 (cW (aI b3 (dv m1 _))) (fun j v ev q=>?_) b5)))
  ·rcases Fc q with q|q
   ·subst q;rw [hx2] at ev;cases ev;exact e
   ·cases q3:L y v with
    |true=>rfl
    |false=>rw [z.hc.neg x v y ox (h.oS v (aE ev)) h.oz (pw hx2 ev q) q3] at e;cases e
  ·rcases Fc (ii q) with q|q
   ·subst q;rw [hx2] at ev;cases ev;exact c8.mpr e
   ·exact z.hc.neg v x y (h.oS v (aE ev)) ox h.oz (pw ev hx2 q) (c8.mpr e)
theorem Bw.put (z:Bw) {S:List Keyed} {y:Keyed} {k l:Nat} {st:ah} (h:IZ st k S y) (b4:∀ (m:Nat) x,S[m]?=some x→m<l→L y x=false) (b5:∀ (m:Nat) x,S[m]?=some x→l≤m→L y x=true):(S.take l++[y]++S.drop l).Pairwise (RR L T):=by
 have h2:=h.srt
 rw [← aG l S,aA] at h2
 rw [ai,aA]
 refine ⟨h2.1,?_,fun x hx v hv=>?_⟩
 ·rw [ej,cR]
  refine ⟨fun v hv=>?_,h2.2.1⟩
  obtain ⟨m,m1,_,e⟩:=kt hv
  have:=b5 _ v e m1
  exact ⟨z.hc.asym y v h.oz (h.oS v (aK hv)) this,.inl this⟩
 ·rcases aQ.mp hv with q|q
  ·subst q
   obtain ⟨m,m1,e⟩:=kr hx
   exact ⟨b4 _ x e m1,.inr (h.tS x (aJ hx))⟩
  ·exact h2.2.2 x hx v q
inductive II (st₀:ah) (k:Nat):IU→ah→Prop
 |mk (S:List Keyed) (st:ah) (R:iO kd st₀ st) (h:IR st k S):II st₀ k (none,()) st
theorem Bw.turn (z:Bw) {st₀:ah} {k:Nat} {c:IU} {st:ah} (hn:k<iN) (h:II st₀ k c st):wpS (model af w) A E s (inT k) (lN (II st₀ (k+1)) (II st₀ iN)) st:=by
 cases h with
 |mk S _ R h =>
  obtain ⟨y,hy,ha,ht⟩:=z.next R.1 h hn
  refine jl (IbI S y k st) (IbQ S y k st) (.mk 0 k (dw _) (aU _) (aU _) (fun m ux ux q=>absurd q (w4 m)) fun m x e q=>?_) (fun i c ux q=>z.bin hy q) (fun c _ q=>?_) fun c _ q=>?_
  ·rw [ek (by rw [hy.len];exact q)] at e;cases e
  ·cases q with
   |mk l r b1 b2 b3 b4 b5 =>
    obtain rfl:=ce b1 (gm3 b3)
    exact .mk _ b2 b4 b5
  ·cases q with
   |mk l b2 b4 b5 =>
    refine bF (yJ ha (by rw [hy.len]) rfl (by rw [hy.len];exact b2) fun xs hxs=>cV (.mk (S.take l++[y]++S.drop l) _ (R.arr xs) ⟨cX h.h1,hxs,?_,z.put hy b4 b5⟩))
    rw [ht,← ai]
    refine List.Perm.trans ?_ (h.perm.append_right _)
    rw [ai]
    refine (bK _ bA).trans ?_
    rw [← ai,aG]
theorem Bw.all (z:Bw) {st:ah} (R:iO kd st st) (arr:(arrOf st).toList=ip++ir++it) {Q:Bool→ah→Prop} (h:∀ st' S,iO kd st st'→(arrOf st').toList=ip++S++it.drop (iN - ir.length)→S.Perm (ir++it.take (iN - ir.length))→S.Pairwise (RR L T)→Q true st'):wpS (model af w) A E s (t8 ip.length iN ir.length) Q st:=by
 rw [p5,Nat.max_eq_left z.h1]
 refine vT z.hr (II st) (II st iN) (.mk ir _ R ⟨aU _,by rw [vw,iS];exact arr,by rw [vw,iQ,cA],z.hs⟩) (fun i c ux hi q=>z.turn hi q) (fun c ux q=>q) fun c _ q=>?_
 cases q with
 |mk S _ R g=>exact ec (h _ S R g.arr g.perm g.srt)
theorem ud (hc:nN af w A E s kd ok L) {st:ah} {pre run rest:List Keyed} {n:Nat} {Q:Bool→ah→Prop} (hR:iO kd st st) (harr:(arrOf st).toList=pre++run++rest)
  (hn:n≤run.length+rest.length) (hrn:run.length≤n) (h1:1≤run.length) (hs:run.Pairwise (RR L T)) (or:∀ x∈run,ok x) (ot:∀ x∈rest,ok x) (ht:∀ x∈run,∀ y∈rest,T x y) (hT:rest.Pairwise T)
  (h:∀ st' run',iO kd st st'→(arrOf st').toList=pre++run'++rest.drop (n - run.length)→run'.Perm (run++rest.take (n - run.length))→run'.Pairwise (RR L T)→Q true st') :
  wpS (model af w) A E s (t8 pre.length n run.length) Q st:=
 have q:Bv pre run rest n:=eh fun no=>eX (p:=fun x:IPar=>¬ Bv x.1 x.2.1 x.2.2.1 x.2.2.2) ⟨(pre,run,rest,n),no⟩ fun a1 a2 a3 a4 a5 a6 a7 a8 ux ux R arr h=>Bw.all ⟨hc,a1,a2,a3,a4,a5,a6,a7,a8⟩ R arr h
 q hn hrn h1 hs or ot ht hT st Q hR harr h
set_option maxHeartbeats 1000000
noncomputable def rK (pre orig:List Keyed):Prop:=1≤orig.length→(∀ x∈orig,ok x)→orig.Pairwise T→∀ (st:ah) (Q:Option Nat→ah→Prop),iO kd st st→(arrOf st).toList=pre++orig →
 (∀ st' n run,iO kd st st'→1≤n→n≤orig.length→run.length=n→(arrOf st').toList=pre++run++orig.drop n→run.Perm (orig.take n)→run.Pairwise (RR L T)→Q (some n) st')→wpS (model af w) A E s (countRun' pre.length orig.length) Q st
noncomputable def cpo:List Keyed×List Keyed:=ik fun x=>¬ rK x.1 x.2
noncomputable def cp:List Keyed:=cpo.1
noncomputable def co:List Keyed:=cpo.2
structure Cr:Prop where
 hc:nN af w A E s kd ok L
 ne:1≤co.length
 oo:∀ x∈co,ok x
 hT:co.Pairwise T
noncomputable abbrev Ds:=Option (Option Nat)×Nat
noncomputable abbrev BM:=Option (Option Nat)×Nat×Nat
noncomputable def crAk (n:Nat) (r:Option Bool):StateT ah Sem (ForInStep Ds):=do
 let some sm:=r|pure (.done (some none,n))
 if sm=true then pure (.done (none,n)) else pure (.yield (none,n+1))
noncomputable def crA (n:Nat):StateT ah Sem (ForInStep Ds):=ltAt' (cp.length+n) (cp.length+n - 1) >>= crAk n
noncomputable def crEnd (c:Ds):StateT ah Sem (Option Nat):=bD (fun ux=>_) c.1 (fun r=>pure r) (fun ux=>pure (some c.2))
noncomputable def AT (n:Nat):StateT ah Sem (Option Nat):=forIn [n:co.length] ((none,n):Ds) (fun ux c=>crA c.2) >>= crEnd
noncomputable def DG (n:Nat):StateT ah Sem (Option Nat):=sg cp.length (cp.length+n) >>= fun ux=>AT n
noncomputable def crBt (n neq:Nat):StateT ah Sem (ForInStep BM):=if neq > 0 then sg (cp.length+n - (neq+1)) (cp.length+n) >>= fun ux=>pure (.yield (none,n+1,0)) else pure (.yield (none,n+1,0))
noncomputable def crBf (n neq:Nat) (r:Option Bool):StateT ah Sem (ForInStep BM):=do
 let some larger:=r|pure (.done (some none,n,neq))
 if larger=true then pure (.done (none,n,neq)) else pure (.yield (none,n+1,neq+1))
noncomputable def crBk (n neq:Nat) (r:Option Bool):StateT ah Sem (ForInStep BM):=do
 let some sm:=r|pure (.done (some none,n,neq))
 if sm=true then crBt n neq else ltAt' (cp.length+n - 1) (cp.length+n) >>= crBf n neq
noncomputable def crB (n neq:Nat):StateT ah Sem (ForInStep BM):=ltAt' (cp.length+n) (cp.length+n - 1) >>= crBk n neq
noncomputable def crBe (c:BM):StateT ah Sem (Option Nat):=bD (fun ux=>_) c.1 (fun r=>pure r)
 (fun ux=>if c.2.2 > 0 then sg (cp.length+c.2.1 - (c.2.2+1)) (cp.length+c.2.1) >>= fun ux=>DG c.2.1 else DG c.2.1)
noncomputable def uY (n:Nat):StateT ah Sem (Option Nat):=(liftM (rule "list.sort.descending-run"):StateT ah Sem Unit) >>= fun ux=>forIn [n+1:co.length] ((none,n+1,0):BM) (fun ux c=>crB c.2.1 c.2.2) >>= crBe
noncomputable def crRk (n:Nat) (r:Option Bool):StateT ah Sem (Option Nat):=do
 let some rose:=r|pure none
 if rose=true then pure (some n) else sg cp.length (cp.length+n) >>= fun ux=>uY n
noncomputable def DH (n:Nat):StateT ah Sem (Option Nat):=if (n == co.length)=true then pure (some n) else if n > 1 then ltAt' cp.length (cp.length+n - 1) >>= crRk n else uY n
noncomputable def crE (c:Ds):StateT ah Sem (Option Nat):=bD (fun ux=>_) c.1 (fun r=>pure r) (fun ux=>DH c.2)
theorem ti:countRun' cp.length co.length=(forIn [1:co.length] ((none,1):Ds) (fun ux c=>crA c.2) >>= crE):=rfl
structure DR (st:ah) (n:Nat) (run:List Keyed):Prop where
 h1:1≤n
 h2:n≤co.length
 h3:run.length=n
 arr:(arrOf st).toList=cp++run++co.drop n
 perm:run.Perm (co.take n)
 srt:run.Pairwise (RR L T)
inductive CQ (st:ah):Option Nat→ah→Prop
 |mk (n:Nat) (run:List Keyed) (st':ah) (R:iO kd st st') (h:DR st' n run):CQ st (some n) st'
inductive Fu (st:ah) (i:Nat):Ds→ah→Prop
 |mk (run:List Keyed) (h:DR st i run):Fu st i (none,i) st
inductive CaQ (st:ah):Ds→ah→Prop
 |mk (n:Nat) (run:List Keyed) (h:DR st n run) (e:n=co.length∨∃ z e,co[n]?=some z∧run.getLast?=some e∧L z e=true):CaQ st (none,n) st
theorem lD {i:Nat} {y:Keyed} (h:co[i]?=some y):co.drop i=y::co.drop (i+1)∧co.take (i+1)=co.take i++[y]:=by
 obtain ⟨hi,rfl⟩:=aF.mp h
 exact ⟨cP hi,cZ hi⟩
theorem Cr.mem (z:Cr) {i:Nat} {y:Keyed} (h:co[i]?=some y) {l:List Keyed} (hp:l.Perm (co.take i)):∀ x∈l,ok x∧T x y:=fun x hx=>by
 have hx:=hp.mem_iff.mp hx
 have hT:=z.hT
 rw [← aG i co,(lD h).1,aA] at hT
 exact ⟨z.oo x (aJ hx),hT.2.2 x hx y (.head _)⟩
theorem zc {l:List Keyed} (h:l≠[]):∃ e,l.getLast?=some e∧e∈l:=⟨_,List.getLast?_eq_some_getLast h,List.getLast_mem h⟩
theorem DR.ne {st:ah} {n:Nat} {run:List Keyed} (h:DR st n run):run≠[]:=fun q=>by
 have:=h.h1;rw [← h.h3,q] at this;cases this
theorem Cr.asc (z:Cr) {st:ah} (hk:kindOf st=kd) {i:Nat} {c:Ds} {st':ah} (hi:i<co.length) (h:Fu st i c st'):wpS (model af w) A E s (crA c.2) (lN (Fu st (i+1)) (CaQ st)) st':=by
 cases h with
 |mk run h =>
  have hy:=aO hi
  obtain ⟨d1,d2⟩:=lD hy
  obtain ⟨e,he,me⟩:=zc h.ne
  have mem:=z.mem hy h.perm
  have ha:=h.arr
  rw [d1] at ha
  refine bF (mj z.hc (kB ha h.h3.symm) (mO ha he h.h3.symm) (z.oo _ (aE hy)) (mem e me).1 hk (cN (fun q=>b9 (CaQ.mk _ _ h (.inr ⟨_,e,hy,he,q⟩))) fun q=>cV (Fu.mk (run++[co[i]]) ⟨vt _,hi,?_,?_,?_,?_⟩)))
  ·rw [au,h.h3,bB]
  ·rw [ha,ai,ai,ai,ej]
  ·rw [d2];exact h.perm.append_right _
  ·exact Cb z.hc h.srt he (fun x hx=>(mem x hx).1) (z.oo _ (aE hy)) (c8.mpr q) fun x hx=>(mem x hx).2
theorem Cr.last (z:Cr) {st₀ st:ah} (R:iO kd st₀ st) {n:Nat} {run:List Keyed} (h:DR st n run):wpS (model af w) A E s (AT n) (CQ st₀) st:=by
 refine vT h.h2 (Fu st) (CaQ st) (.mk _ h) (fun i c ux hi h=>z.asc R.1 hi h) (fun c _ q=>?_) fun c _ q=>?_
 ·cases q with
  |mk run h=>exact .mk _ _ h (.inl rfl)
 ·cases q with
  |mk n run h=>exact ec (.mk _ _ _ R h)
structure DI (D Eq:List Keyed):Prop where
 perm:(D++Eq).Perm (co.take (D++Eq).length)
 ne:Eq≠[]
 srt:(Eq++D.reverse).Pairwise (RR L T)
 eqv:∀ x∈Eq,∀ y∈Eq,L x y=false
 lt:∀ x∈Eq,∀ y∈D,L x y=true
theorem kk {D Eq:List Keyed}:(D++Eq.reverse).Perm (D++Eq):=bK _ (kR _)
theorem Cp {D Eq:List Keyed} {y:Keyed}:(D++Eq.reverse++[y]).length=(D++Eq).length+1:=by rw [au,kk.length_eq];rfl
theorem Cr.ylt (z:Cr) {D Eq:List Keyed} (d:DI D Eq) {y l:Keyed} (hy:co[(D++Eq).length]?=some y) (ml:l∈Eq) (hyl:L y l=true):∀ x∈D++Eq,L y x=true:=fun x hx=>by
 have mem:=z.mem hy d.perm
 have ol:=(mem l (cJ _ ml)).1
 have ox:=(mem x hx).1
 cases q:L y x with
 |true=>rfl
 |false=>rw [z.hc.neg l x y ol ox (z.oo _ (aE hy)) ((ay.mp hx).elim (fun q=>z.hc.asym l x ol ox (d.lt l ml x q)) fun q=>d.eqv x q l ml) q] at hyl;cases hyl
theorem Cr.front (z:Cr) {O:List Keyed} {y:Keyed} (hy:co[O.length]?=some y) (hO:O.Perm (co.take O.length)) (hs:O.reverse.Pairwise (RR L T)) (hz:∀ x∈O,L y x=true):DI O [y]:=by
 have oy:=z.oo _ (aE hy)
 refine ⟨?_,List.cons_ne_nil _ _,?_,fun x hx x' hx'=>?_,fun x hx x' hx'=>?_⟩
 ·rw [au,bB,(lD hy).2]
  exact hO.append_right _
 ·rw [ej,cR]
  refine ⟨fun x hx=>?_,hs⟩
  have hx:=tN.mp hx
  exact ⟨z.hc.asym y x oy (z.mem hy hO x hx).1 (hz x hx),.inl (hz x hx)⟩
 ·rw [aC.mp hx,aC.mp hx'];exact irr z.hc oy
 ·rw [aC.mp hx];exact hz x' hx'
theorem Cr.turn (z:Cr) {D Eq:List Keyed} (d:DI D Eq) {y l:Keyed} (hy:co[(D++Eq).length]?=some y) (ml:l∈Eq) (hyl:L y l=true):DI (D++Eq.reverse) [y]:=by
 have le:(D++Eq.reverse).length=(D++Eq).length:=kk.length_eq
 refine z.front (by rw [le];exact hy) (by rw [le];exact kk.trans d.perm) (by rw [List.reverse_append,Br];exact d.srt) fun x hx=>z.ylt d hy ml hyl x (kk.mem_iff.mp hx)
theorem Cr.more (z:Cr) {D Eq:List Keyed} (d:DI D Eq) {y l:Keyed} (hy:co[(D++Eq).length]?=some y) (ml:l∈Eq) (hyl:L y l=false) (hly:L l y=false):DI D (Eq++[y]):=by
 have mem:=z.mem hy d.perm
 have oy:=z.oo _ (aE hy)
 have ol:=(mem l (cJ _ ml)).1
 have ye:∀ x∈Eq,L y x=false∧L x y=false:=fun x hx =>
  have ox:=(mem x (cJ _ hx)).1
  ⟨z.hc.neg x l y ox ol oy (d.eqv l ml x hx) hyl,z.hc.neg y l x oy ol ox hly (d.eqv x hx l ml)⟩
 have yd:∀ x∈D,L y x=true:=fun x hx=>by
  cases q:L y x with
  |true=>rfl
  |false=>have:=z.hc.neg x y l (mem x (df _ hx)).1 oy ol q hly;rw [d.lt l ml x hx] at this;cases this
 refine ⟨?_,fun q=>?_,?_,fun x hx x' hx'=>?_,fun x hx x' hx'=>?_⟩
 ·rw [← ai,au,bB,(lD hy).2]
  exact d.perm.append_right _
 ·exact List.cons_ne_nil _ _ (List.append_eq_nil_iff.mp q).2
 ·have d4:=aA.mp d.srt
  rw [ai,aA,ej,cR]
  refine ⟨d4.1,⟨fun x hx=>?_,d4.2.1⟩,fun x hx x' hx'=>?_⟩
  ·have hx:=tN.mp hx
   exact ⟨z.hc.asym y x oy (mem x (df _ hx)).1 (yd x hx),.inl (yd x hx)⟩
  ·rcases aQ.mp hx' with q|q
   ·rw [q];exact ⟨(ye x hx).1,.inr (mem x (cJ _ hx)).2⟩
   ·exact d4.2.2 x hx x' q
 ·rcases ay.mp hx with q|q <;> rcases ay.mp hx' with q'|q'
  ·exact d.eqv x q x' q'
  ·rw [aC.mp q'];exact (ye x q).2
  ·rw [aC.mp q];exact (ye x' q').1
  ·rw [aC.mp q,aC.mp q'];exact irr z.hc oy
 ·rcases ay.mp hx with q|q
  ·exact d.lt x q x' hx'
  ·rw [aC.mp q];exact yd x' hx'
inductive Fk (st:ah) (i:Nat):BM→ah→Prop
 |mk (D Eq:List Keyed) (k:Nat) (st':ah) (R:iO kd st st') (hl:(D++Eq).length=i) (he:Eq.length=k+1) (d:DI D Eq) (arr:(arrOf st').toList=cp++(D++Eq)++co.drop i):Fk st i (none,i,k) st'
inductive CfQ (st:ah):BM→ah→Prop
 |mk (i:Nat) (c:BM) (st':ah) (hi:i≤co.length) (h:Fk st i c st'):CfQ st c st'
theorem Ci {Eq:List Keyed} {k:Nat} (he:Eq.length=k+1) (q:¬ k > 0):Eq.reverse=Eq:=by
 obtain rfl:=gS q
 obtain ⟨a,rfl⟩:=List.length_eq_one_iff.mp he
 rfl
theorem DF {D Eq:List Keyed} {i k:Nat} (hl:(D++Eq).length=i) (he:Eq.length=k+1):cp.length+i - (k+1)=(cp++D).length∧cp.length+i=(cp++D).length+Eq.length:=by
 rw [au] at hl ⊢
 rw [← hl,← he,← dY]
 exact ⟨Fd _ _,rfl⟩
theorem wS {st:ah} {D Eq:List Keyed} {i k:Nat} {rest:List Keyed} (hl:(D++Eq).length=i) (he:Eq.length=k+1) (arr:(arrOf st).toList=cp++(D++Eq)++rest) {γ:Type} {m:StateT ah Sem γ} {Q:γ→ah→Prop} (h:∀ st',(kindOf st'=kindOf st∧dD st'=dD st∧br st'=br st)→(arrOf st').toList=cp++(D++Eq.reverse)++rest→wpS (model af w) A E s m Q st') :
  wpS (model af w) A E s (if k > 0 then sg (cp.length+i - (k+1)) (cp.length+i) >>= fun ux=>m else m) Q st:=by
 refine cN (fun ux=>bF (qN (pre:=cp++D) (mid:=Eq) (post:=rest) (by rw [arr,← ai cp]) (DF hl he).1 (DF hl he).2 fun xs hxs=>h _ ⟨rfl,rfl,rfl⟩ (by rw [← ai cp];exact hxs))) fun q=>h st ⟨rfl,rfl,rfl⟩ ?_
 rw [Ci he q];exact arr
theorem iO.to {st st' st'':ah} (h:iO kd st st') (q:kindOf st''=kindOf st'∧dD st''=dD st'∧br st''=br st'):iO kd st st'':=⟨q.1.trans h.1,q.2.1.trans h.2.1,q.2.2.trans h.2.2⟩
theorem Cr.fall1 (z:Cr) {st:ah} {i:Nat} {c:BM} {st':ah} (hi:i<co.length) (h:Fk st i c st'):wpS (model af w) A E s (crB c.2.1 c.2.2) (lN (Fk st (i+1)) (CfQ st)) st':=by
 cases h with
 |mk D Eq k _ R hl he d arr =>
  subst hl
  have hy:=aO hi
  obtain ⟨d1,d2⟩:=lD hy
  obtain ⟨l,hl,ml⟩:=zc d.ne
  have hl':(D++Eq).getLast?=some l:=by rw [List.getLast?_append,hl];rfl
  have oy:=z.oo _ (aE hy)
  have ol:=(z.mem hy d.perm l (cJ _ ml)).1
  have ha:=arr
  rw [d1] at ha
  refine bF (mj z.hc (kB ha rfl) (mO ha hl' rfl) oy ol R.1 (cN (fun q=>?_) fun q=>bF (mj z.hc (mO ha hl' rfl) (kB ha rfl) ol oy R.1 (cN (fun q2=>b9 (CfQ.mk _ _ _ (b7 hi) (.mk D Eq k _ R rfl he d arr))) fun q2=>cV (Fk.mk D (Eq++[_]) _ _ R ?_ ?_ (z.more d hy ml (c8.mpr q) (c8.mpr q2)) ?_)))))
  ·refine wS (m:=pure (fS (none,(D++Eq).length+1,0))) rfl he ha fun st2 r2 a2=>cV (Fk.mk (D++Eq.reverse) [_] _ _ (R.to r2) Cp rfl (z.turn d hy ml q) ?_)
   rw [a2,ai cp,ai cp,ai (D++Eq.reverse),ej]
  ·rw [← ai,au];rfl
  ·rw [au,he];rfl
  ·rw [ha,← ai D,ai cp,ai cp,ai (D++Eq),ej]
theorem Cr.fall (z:Cr) {st₀ st:ah} (R:iO kd st₀ st) {n:Nat} {O:List Keyed} {y:Keyed} (hn:O.length=n) (hy:co[n]?=some y) (hO:O.Perm (co.take n)) (arr:(arrOf st).toList=cp++O++co.drop n) (hs:O.reverse.Pairwise (RR L T)) (hz:∀ x∈O,L y x=true):wpS (model af w) A E s (uY n) (CQ st₀) st:=by
 subst hn
 have hi:=(aF.mp hy).1
 refine iv (vT (a:=O.length+1) hi (Fk st₀) (CfQ st₀) (.mk O [y] 0 st R (by rw [au];rfl) rfl (z.front hy hO hs hz) ?_) (fun i c ux hi h=>z.fall1 hi h) (fun c ux q=> .mk _ _ _ (aU _) q) fun c _ q=>?_)
 ·rw [arr,(lD hy).1,← ai cp,ai (cp++O)];rfl
 obtain ⟨i,_,_,hi,q⟩:=q
 cases q with
 |mk D Eq k _ R hl he d arr =>
  have lV:(Eq++D.reverse).length=i:=by rw [au,oi,kP,← au];exact hl
  refine wS hl he arr fun st2 r2 a2=>bF (qN (pre:=cp) (mid:=D++Eq.reverse) (post:=co.drop i) a2 rfl (by rw [kk.length_eq,hl]) fun xs hxs=>z.last ((R.to r2).arr xs) (run:=Eq++D.reverse) ⟨?_,hi,lV,?_,?_,d.srt⟩)
  ·rw [← hl,au,he];exact aI (vt _) (jz _ _)
  ·rw [List.reverse_append,Br] at hxs;exact hxs
  ·have:=d.perm
   rw [hl] at this
   exact (bA.trans (eV _ (kR _))).trans this
theorem Cr.one (z:Cr) {st:ah} (R:iO kd st st) {n:Nat} {run:List Keyed} (h:DR st n run) (h0:n=co.length∨∃ z e,co[n]?=some z∧run.getLast?=some e∧L z e=true):wpS (model af w) A E s (DH n) (CQ st) st:=by
 refine dN (fun ux=>ec (.mk _ _ _ R h)) fun q=>?_
 obtain ⟨y,e,hy,he,hl⟩:=h0.resolve_left q
 clear h0
 have mem:=z.mem hy h.perm
 have me:=List.mem_of_getLast? he
 have oe:=(mem e me).1
 have oy:=z.oo _ (aE hy)
 cases run with
 |nil=>exact absurd rfl h.ne
 |cons x0 mid =>
  have o0:=(mem x0 (.head _)).1
  refine cN (fun ux=>bF (mj z.hc (x:=x0) (y:=e) ?_ (mO h.arr he h.h3.symm) o0 oe R.1 (cN (fun ux=>ec (.mk _ _ _ R h)) fun q2=>bF (qN (pre:=cp) (mid:=x0::mid) (post:=co.drop n) h.arr rfl (by rw [h.h3]) fun xs hxs=>z.fall (R.arr xs) (by rw [oi];exact h.h3) hy ((kR _).trans h.perm) hxs (by rw [Br];exact h.srt) fun x hx=>?_)))) fun q2=>z.fall R h.h3 hy h.perm h.arr ?_ fun x hx=>?_
  ·have:=kB (pre:=cp) (run:=[]) (rest:=mid++co.drop n) (z:=x0) (xs:=arrOf st) (by rw [h.arr,cA,ai];rfl) (n:=0) rfl
   exact this
  ·have hx:=tN.mp hx
   have ox:=(mem x hx).1
   have h1:L x x0=false:=by
    rcases aQ.mp hx with q|q
    ·rw [q];exact irr z.hc o0
    ·exact ((cR.mp h.srt).1 x q).1
   cases q3:L y x with
   |true=>rfl
   |false=>rw [z.hc.neg e x y oe ox oy (z.hc.neg e x0 x oe o0 ox (c8.mpr q2) h1) q3] at hl;cases hl
  all_goals have hm:mid=[]:=gF (Nat.le_zero.mp (Nat.le_of_succ_le_succ (aI (gR h.h3) (tH q2))))
  all_goals subst hm
  ·exact dK _ _
  ·rw [aC.mp hx]
   rw [aC.mp me] at hl
   exact hl
theorem Cr.all (z:Cr) {st:ah} (R:iO kd st st) (arr:(arrOf st).toList=cp++co):wpS (model af w) A E s (countRun' cp.length co.length) (CQ st) st:=by
 rw [ti]
 have h0:DR st 1 (co.take 1):=by
  refine ⟨aU _,z.ne,by rw [bh];exact bR z.ne,by rw [arr,ai,aG],.refl _,?_⟩
  match co with
  |[]=>exact .nil
  |_::_=>exact dK _ _
 refine vT z.ne (Fu st) (CaQ st) (.mk _ h0) (fun i c ux hi h=>z.asc R.1 hi h) (fun c _ q=>?_) fun c _ q=>?_
 ·cases q with
  |mk run h=>exact .mk _ _ h (.inl rfl)
 ·cases q with
  |mk n run h e=>exact z.one R h e
theorem pU (hc:nN af w A E s kd ok L) {st:ah} {pre orig:List Keyed} {Q:Option Nat→ah→Prop} (hR:iO kd st st) (harr:(arrOf st).toList=pre++orig) (hne:1≤orig.length)
  (oo:∀ x∈orig,ok x) (hT:orig.Pairwise T)
  (h:∀ st' n run,iO kd st st'→1≤n→n≤orig.length→run.length=n→(arrOf st').toList=pre++run++orig.drop n→run.Perm (orig.take n)→run.Pairwise (RR L T)→Q (some n) st') :
  wpS (model af w) A E s (countRun' pre.length orig.length) Q st:=
 have q:rK pre orig:=eh fun no=>eX (p:=fun x:List Keyed×List Keyed=>¬ rK x.1 x.2) ⟨(pre,orig),no⟩ fun a1 a2 a3 ux ux R arr h=>wpS_mono (Cr.all ⟨hc,a1,a2,a3⟩ R arr) fun r st' q=>by
  cases q with
  |mk n run _ R g=>exact h _ n run R g.h1 g.h2 g.h3 g.arr g.perm g.srt
 q hne oo hT st Q hR harr h
set_option maxHeartbeats 4000000
noncomputable def pN (p:Array (Nat×Nat×Nat)) (runs:List (List Keyed)):Prop:=
 p.size=runs.length∧∀ (R1 R2:List (List Keyed)) (r:List Keyed),runs=R1++r::R2→∃ pw,p[R1.length]?=some (R1.flatten.length,r.length,pw)
theorem pN.push {p:Array (Nat×Nat×Nat)} {runs:List (List Keyed)} (h:pN p runs) (r:List Keyed) {lo n:Nat} (hlo:lo=runs.flatten.length) (hn:n=r.length):pN (p.push (lo,n,0)) (runs++[r]):=by
 refine ⟨by simp [h.1],fun R1 R2 r' e=>?_⟩
 rcases List.append_eq_append_iff.mp e with ⟨as,h1,h2⟩|⟨bs,h1,h2⟩
 ·-- R1=runs++as
  cases as with
  |nil =>
   simp at h1 h2
   obtain ⟨rfl,rfl⟩:=h2
   subst h1
   exact ⟨0,by rw [← h.1];simp [hlo,hn]⟩
  |cons a as=>simp at h2
 ·cases bs with
  |nil =>
   simp at h1 h2
   obtain ⟨rfl,rfl⟩:=h2
   subst h1
   exact ⟨0,by rw [← h.1];simp [hlo,hn]⟩
  |cons b bs =>
   simp at h2
   obtain ⟨rfl,rfl⟩:=h2
   obtain ⟨pw,hp⟩:=h.2 R1 bs r' h1
   have:R1.length<p.size:=by rw [h.1,h1];simp
   exact ⟨pw,by rw [Array.getElem?_push_lt this,← hp,Array.getElem?_eq_getElem this]⟩
theorem pN.modify {p:Array (Nat×Nat×Nat)} {runs:List (List Keyed)} (h:pN p runs) (k:Nat) (pw:Nat):pN (p.modify k fun (st,len,_)=>(st,len,pw)) runs:=by
 refine ⟨by simp [h.1],fun R1 R2 r e=>?_⟩
 obtain ⟨q,hq⟩:=h.2 R1 R2 r e
 rw [Array.getElem?_modify,hq]
 by_cases hk:k=R1.length
 ·exact ⟨pw,by simp [hk]⟩
 ·exact ⟨q,by simp [hk]⟩
theorem pN.merge {p:Array (Nat×Nat×Nat)} {R1 R2:List (List Keyed)} {la lb res:List Keyed} (h:pN p (R1++la::lb::R2)) (hr:res.length=la.length+lb.length) {p1:Nat} :
  pN ((p.setIfInBounds R1.length (R1.flatten.length,la.length+lb.length,p1)).eraseIdxIfInBounds (R1.length+1)) (R1++res::R2):=by
 have hs:p.size=R1.length+R2.length+2:=by rw [h.1];simp;lia
 have hb:R1.length+1<(p.setIfInBounds R1.length (R1.flatten.length,la.length+lb.length,p1)).size:=by simp;lia
 have ez:(p.setIfInBounds R1.length (R1.flatten.length,la.length+lb.length,p1)).eraseIdxIfInBounds (R1.length+1)=(p.setIfInBounds R1.length (R1.flatten.length,la.length+lb.length,p1)).eraseIdx (R1.length+1) hb:=by
  unfold Array.eraseIdxIfInBounds;rw [dif_pos hb]
 rw [ez]
 refine ⟨by simp [hs];lia,fun S1 S2 r e=>?_⟩
 rw [Array.getElem?_eraseIdx]
 rcases List.append_eq_append_iff.mp e with ⟨as,h1,h2⟩|⟨bs,h1,h2⟩
 ·-- S1=R1++as
  cases as with
  |nil =>
   simp at h1 h2
   obtain ⟨rfl,rfl⟩:=h2
   subst h1
   refine ⟨p1,?_⟩
   rw [if_pos (by (exact aU _)),Array.getElem?_setIfInBounds_self_of_lt (by lia),hr]
  |cons a as =>
   simp at h2
   obtain ⟨rfl,rfl⟩:=h2
   subst h1
   obtain ⟨pw,hp⟩:=h.2 (R1++la::lb::as) S2 r (by simp)
   refine ⟨pw,?_⟩
   rw [if_neg (by simp),ef (by simp;lia)]
   rw [show (R1++la::lb::as).length=(R1++res::as).length+1 by simp;lia] at hp
   rw [hp]
   simp [hr]
   lia
 ·cases bs with
  |nil =>
   simp at h1 h2
   obtain ⟨rfl,rfl⟩:=h2
   subst h1
   refine ⟨p1,?_⟩
   rw [if_pos (by (exact aU _)),Array.getElem?_setIfInBounds_self_of_lt (by lia),hr]
  |cons b bs =>
   simp at h2
   obtain ⟨rfl,rfl⟩:=h2
   obtain ⟨pw,hp⟩:=h.2 S1 (bs++la::lb::R2) r (by rw [h1];simp)
   refine ⟨pw,?_⟩
   have:S1.length<R1.length:=by rw [h1];simp
   rw [if_pos (by (exact cM (by assumption))),ef (by (exact d7 (by assumption))),hp]
section
variable {a₀:List Keyed}
structure SI (kd:pR) (ok:Keyed→Prop) (L:Keyed→Keyed→Bool) (T:Keyed→Keyed→Prop) (tail:List Keyed) (st:ah) (runs:List (List Keyed)):Prop where
 kind:kindOf st=kd
 fail:dD st=none
 pend:pN (br st) runs
 arr:(arrOf st).toList=runs.flatten++tail
 srt:∀ r∈runs,r≠[]∧r.Pairwise (RR L T)
 tie:runs.Pairwise fun r r'=>∀ x∈r,∀ y∈r',T x y
 oks:∀ x∈runs.flatten,ok x
theorem rU (hc:nN af w A E s kd ok L) {st:ah} {tail:List Keyed} {R1 R2:List (List Keyed)} {la lb:List Keyed} {i:Nat} {Q:Bool→ah→Prop} (hI:SI kd ok L T tail st (R1++la::lb::R2)) (hi:i=R1.length)
  (h:∀ st' res,SI kd ok L T tail st' (R1++res::R2)→(R1++res::R2).flatten.Perm (R1++la::lb::R2).flatten→Q true st'):wpS (model af w) A E s (mergeAt' i) Q st:=by
 subst hi
 obtain ⟨k1,k2,k3,k5,k8,k9,k7⟩:=hI
 obtain ⟨p1,hp1⟩:=k3.2 R1 (lb::R2) la rfl
 obtain ⟨p2,Fl⟩:=k3.2 (R1++[la]) R2 lb (by simp)
 have mem:∀ x,x∈la∨x∈lb→ok x:=fun x hx=>k7 x (by
  rw [jd,qG,qG];simp only [ay]
  rcases hx with q|q
  ·exact .inr (.inl q)
  ·exact .inr (.inr (.inl q)))
 have ra:=k8 la (by simp)
 have rb:=k8 lb (by simp)
 have k9':=k9
 rw [aA,cR,cR] at k9'
 obtain ⟨t1,⟨t2,t3,t4⟩,t5⟩:=k9'
 refine rV (p1:=p1) (p2:=p2) (pre:=R1.flatten) (la:=la) (lb:=lb) (post:=R2.flatten++tail) hc k1 k2 (by rw [k5];simp) hp1 (by rw [au,bB] at Fl;rw [Fl];simp)
  ra.2 rb.2 (fun x hx=>mem x (.inl hx)) (fun x hx=>mem x (.inr hx)) (t2 lb (by simp)) (gf.mpr ra.1) (gf.mpr rb.1) fun st' res e1 e2 e3 e4 e5=>?_
 have lr:res.length=la.length+lb.length:=by rw [e5.1.length_eq,au]
 have mr:∀ x,x∈res→x∈la∨x∈lb:=fun x hx=>ay.mp (e5.1.mem_iff.mp hx)
 have pm:(R1++res::R2).flatten.Perm (R1++la::lb::R2).flatten:=by
  simp only [jd,qG]
  refine bK _ ?_
  rw [← ai]
  exact e5.1.append_right _
 refine h st' res ⟨e1,e2,by rw [e3];exact k3.merge lr,by rw [e4];simp,?_,?_,fun x hx=>k7 x (pm.mem_iff.mp hx)⟩ pm
 ·intro r hr
  rcases ay.mp hr with q|q
  ·exact k8 r (df _ q)
  ·rcases aQ.mp q with q|q
   ·rw [q]
    exact ⟨fun e=>by rw [e] at lr;simp at lr;exact ra.1 (gF (by lia)),e5.2⟩
   ·exact k8 r (by simp [q])
 ·rw [aA,cR]
  refine ⟨t1,⟨fun r' hr' x hx y hy=>?_,t4⟩,fun r hr r' hr' x hx y hy=>?_⟩
  ·rcases mr x hx with q|q
   ·exact t2 r' (by simp [hr']) x q y hy
   ·exact t3 r' hr' x q y hy
  ·rcases aQ.mp hr' with q|q
   ·rw [q] at hy
    rcases mr y hy with q2|q2
    ·exact t5 r hr la (by simp) x hx y q2
    ·exact t5 r hr lb (by simp) x hx y q2
   ·exact t5 r hr r' (by simp [q]) x hx y hy
end
set_option maxHeartbeats 1000000
theorem xr {α:Type} {l:List α} {i:Nat} (h:i+1<l.length):∃ R1 a b R2,l=R1++a::b::R2∧R1.length=i:=by
 refine ⟨l.take i,l[i],l[i+1],l.drop (i+2),?_,by rw [bh];lia⟩
 rw [← cP (by assumption),← cP (by (exact b7 (by assumption))),aG]
theorem B9 {runs:List (List Keyed)} (h:∀ r∈runs,r≠[]∧r.Pairwise (RR L T)):runs.length≤runs.flatten.length:=by
 induction runs with
 |nil=>simp
 |cons r rs ih =>
  have h1:=gf.mpr (h r (by simp)).1
  have h2:=ih fun r' hr'=>h r' (by simp [hr'])
  rw [qG,au,bj];lia
noncomputable abbrev SS:=Option Unit×Nat
noncomputable abbrev SU:=Option Unit×Unit
noncomputable def srP (lo n:Nat):StateT ah Sem (ForInStep SS):=modify (fun s=>nQ s ((br s).push (lo,n,0))) >>= fun ux=>pure (.yield (none,lo+n))
noncomputable def srM (i:Nat):StateT ah Sem (ForInStep SU):=mergeAt' i >>= fun b=>if (!b)=true then pure (.done (some (),())) else pure (.yield (none,()))
noncomputable def srLk (pw i:Nat) (r:Option (Nat×Nat×Nat)):StateT ah Sem (ForInStep SU):=do
 let some (_,_,older):=r|pure (.done (none,()))
 if older≤pw then pure (.done (none,())) else srM i
noncomputable def srL (pw:Nat):StateT ah Sem (ForInStep SU):=get >>= fun st=>srLk pw ((br st).size - 2) (if (br st).size > 1 then (br st)[(br st).size - 2]? else none)
noncomputable def srJe (lo n pw:Nat) (c:SU):StateT ah Sem (ForInStep SS):=bD (fun ux=>_) c.1 (fun r=>pure (.done (some r,lo)))
 (fun ux=>modify (fun s=>nQ s ((br s).modify ((br s).size - 1) fun (st,len,_)=>(st,len,pw))) >>= fun ux=>srP lo n)
noncomputable def srJp (sz lo n pw:Nat):StateT ah Sem (ForInStep SS):=forIn [0:sz] ((none,()):SU) (fun ux ux=>srL pw) >>= srJe lo n pw
noncomputable def srJk (sz lo n:Nat) (r:Option (Nat×Nat×Nat)):StateT ah Sem (ForInStep SS):=
 match r with
 |some (s1,n1,_)=>srJp sz lo n (power' sz (2 * s1+n1) (2 * s1+n1+n1+n) sz)
 |_=>srP lo n
noncomputable def srJ (sz lo n:Nat):StateT ah Sem (ForInStep SS):=get >>= fun st=>srJk sz lo n (br st).back?
noncomputable def srB (sz lo n:Nat) (b:Bool):StateT ah Sem (ForInStep SS):=if (!b)=true then pure (.done (some (),lo)) else srJ sz lo n
noncomputable def srK (sz lo:Nat) (r:Option Nat):StateT ah Sem (ForInStep SS):=do
 let some n:=r|pure (.done (some (),lo))
 if n<minRun' sz sz 0 then (liftM (rule "list.sort.binary-insertion"):StateT ah Sem Unit) >>= fun ux=>t8 lo (min (sz - lo) (minRun' sz sz 0)) n >>= srB sz lo (min (sz - lo) (minRun' sz sz 0)) else srJ sz lo n
noncomputable def srS (sz lo:Nat):StateT ah Sem (ForInStep SS):=if lo≥sz then pure (.done (none,lo)) else countRun' lo (sz - lo) >>= srK sz lo
noncomputable def D5 (p:Array (Nat×Nat×Nat)):Nat:=if (if p.size - 2 > 0 then p[p.size - 2 - 1]?.map (·.2.1) else none).any (·<(p[p.size - 2+1]?.elim 0 (·.2.1))) then p.size - 2 - 1 else p.size - 2
noncomputable def srF:StateT ah Sem (ForInStep SU):=get >>= fun st=>if (br st).size≤1 then pure (.done (none,())) else srM (D5 (br st))
noncomputable def srEe (c:SU):StateT ah Sem Unit:=bD (fun ux=>_) c.1 (fun r=>pure r) (fun ux=>pure ())
noncomputable def srE (sz:Nat) (c:SS):StateT ah Sem Unit:=bD (fun ux=>_) c.1 (fun r=>pure r) (fun ux=>forIn [0:sz] ((none,()):SU) (fun ux ux=>srF) >>= srEe)
theorem sf:sortRuns'=(get >>= fun st=>forIn [0:(arrOf st).size] ((none,0):SS) (fun ux c=>srS (arrOf st).size c.2) >>= srE (arrOf st).size):=rfl
structure Sr:Prop where
 hc:nN af w A E s kd ok L
 oo:∀ x∈jh,ok x
 hT:jh.Pairwise T
structure SL (st:ah) (lo:Nat) (runs:List (List Keyed)):Prop where
 I:SI kd ok L T (jh.drop lo) st runs
 P:runs.flatten.Perm (jh.take lo)
 le:lo≤jh.length
inductive Fq (i:Nat):SS→ah→Prop
 |mk (lo:Nat) (runs:List (List Keyed)) (st:ah) (h:SL st lo runs) (hi:min i jh.length≤lo):Fq i (none,lo) st
inductive SrQ:SS→ah→Prop
 |mk (runs:List (List Keyed)) (st:ah) (h:SL st jh.length runs):SrQ (none,jh.length) st
structure NR (lo n:Nat) (run:List Keyed) (runs:List (List Keyed)):Prop where
 h1:1≤n
 h2:lo+n≤jh.length
 h3:run.length=n
 perm:run.Perm ((jh.drop lo).take n)
 srt:run.Pairwise (RR L T)
 P:runs.flatten.Perm (jh.take lo)
theorem Sr.tie (z:Sr) {lo:Nat}:∀ x∈jh.take lo,∀ y∈jh.drop lo,T x y:=by
 have h:=z.hT
 rw [← aG lo jh,aA] at h
 exact h.2.2
theorem Sr.push (z:Sr) {st:ah} {lo n i:Nat} {run:List Keyed} {runs:List (List Keyed)} (h:NR lo n run runs) (I:SI kd ok L T (run++(jh.drop lo).drop n) st runs) (hi:min i jh.length≤lo):Fq (i+1) (none,lo+n) (nQ st ((br st).push (lo,n,0))):=by
 have lf:runs.flatten.length=lo:=by rw [h.P.length_eq,bh];exact bR (aI (ci _ _) h.h2)
 refine .mk _ (runs++[run]) _ ⟨⟨I.kind,I.fail,I.pend.push run lf.symm h.h3.symm,?_,fun r hr=>?_,?_,fun x hx=>?_⟩,?_,h.h2⟩ ?_
 ·show (arrOf st).toList=_
  rw [I.arr,jd,ai,kY,kT]
 ·rcases ay.mp hr with q|q
  ·exact I.srt r q
  ·rw [aC.mp q]
   exact ⟨fun e=>(by have:=h.h1;rw [← h.h3,e] at this;cases this),h.srt⟩
 ·rw [aA]
  refine ⟨I.tie,dK _ _,fun r hr r' hr' x hx y hy=>?_⟩
  rw [aC.mp hr'] at hy
  exact z.tie x (h.P.mem_iff.mp (List.mem_flatten.mpr ⟨r,hr,hx⟩)) y (aJ (h.perm.mem_iff.mp hy))
 ·rw [jd,kT] at hx
  rcases ay.mp hx with q|q
  ·exact I.oks x q
  ·exact z.oo x (aK (aJ (h.perm.mem_iff.mp q)))
 ·rw [jd,List.take_add,kT]
  exact h.P.append h.perm
 ·have:=h.h1;lia
theorem sv (hc:nN af w A E s kd ok L) {st:ah} {tail:List Keyed} {runs:List (List Keyed)} {i:Nat} (I:SI kd ok L T tail st runs) (hi:i+1<runs.length) {J Q:SU→ah→Prop} (h:∀ st' runs',SI kd ok L T tail st' runs'→runs'.flatten.Perm runs.flatten→runs'.length+1=runs.length→J (none,()) st'):wpS (model af w) A E s (srM i) (lN J Q) st:=by
 obtain ⟨R1,la,lb,R2,rfl,hR1⟩:=xr hi
 exact bF (rU hc I hR1.symm fun st' res I' p=>cV (h st' _ I' p (by rw [au,au,bj,bj,bj,dY])))
inductive Fs (tail:List Keyed) (fl:List Keyed):SU→ah→Prop
 |mk (runs:List (List Keyed)) (st:ah) (I:SI kd ok L T tail st runs) (p:runs.flatten.Perm fl):Fs tail fl (none,()) st
theorem Sr.merges (z:Sr) {tail fl:List Keyed} {pw:Nat} {c:SU} {st:ah} (h:Fs tail fl c st):wpS (model af w) A E s (srL pw) (lN (Fs tail fl) (Fs tail fl)) st:=by
 cases h with
 |mk runs _ I p =>
  refine iA ?_
  cases hp:(if (br st).size > 1 then (br st)[(br st).size - 2]? else none) with
  |none=>exact b9 (.mk _ _ I p)
  |some q =>
   have hgt:(br st).size > 1:=Decidable.byContradiction fun n=>by rw [if_neg n] at hp;cases hp
   refine cN (fun ux=>b9 (.mk _ _ I p)) fun ux=>sv z.hc I ?_ fun st' runs' I' p' ux=> .mk _ _ I' (p'.trans p)
   have:=I.pend.1
   lia
theorem Sr.j (z:Sr) {st:ah} {lo n i:Nat} {run:List Keyed} {runs:List (List Keyed)} (h:NR lo n run runs) (I:SI kd ok L T (run++(jh.drop lo).drop n) st runs) (hi:min i jh.length≤lo):wpS (model af w) A E s (srJ jh.length lo n) (lN (Fq (i+1)) SrQ) st:=by
 refine iA ?_
 cases hb:(br st).back? with
 |none=>exact kc (cV (z.push h I hi))
 |some q =>
  refine jl (fun ux=>Fs (run++(jh.drop lo).drop n) runs.flatten) (Fs (run++(jh.drop lo).drop n) runs.flatten) (.mk runs _ I (.refl _)) (fun i c ux h=>z.merges h) (fun ux ux h=>h) fun c _ q=>?_
  cases q with
  |mk runs' _ I' p=>exact kc (kc (cV (z.push ⟨h.h1,h.h2,h.h3,h.perm,h.srt,p.trans h.P⟩ ⟨I'.kind,I'.fail,I'.pend.modify _ _,I'.arr,I'.srt,I'.tie,I'.oks⟩ hi)))
theorem EM {pre orig:List Keyed} {a b:Nat} (ha:pre.length=a) (hb:orig.length=b) {Q:Option Nat→ah→Prop} {st:ah} (h:wpS (model af w) A E s (countRun' pre.length orig.length) Q st):wpS (model af w) A E s (countRun' a b) Q st:=by
 subst ha hb;exact h
theorem Es {pre run:List Keyed} {a b n:Nat} (ha:pre.length=a) (hb:run.length=b) {Q:Bool→ah→Prop} {st:ah} (h:wpS (model af w) A E s (t8 pre.length n run.length) Q st):wpS (model af w) A E s (t8 a n b) Q st:=by
 subst ha hb;exact h
theorem Sr.step (z:Sr) {i:Nat} {c:SS} {st:ah} (h:Fq i c st):wpS (model af w) A E s (srS jh.length c.2) (lN (Fq (i+1)) SrQ) st:=by
 cases h with
 |mk lo runs _ h hi =>
  obtain ⟨I,P,le⟩:=h
  refine cN (fun q=>?_) fun q=>?_
  ·obtain rfl:=ce le q
   exact b9 (.mk runs _ ⟨I,P,le⟩)
  have q:=dj q
  have lf:runs.flatten.length=lo:=by rw [P.length_eq,bh];exact bR le
  have hTd:(jh.drop lo).Pairwise T:=z.hT.sublist (c6 _ _)
  refine bF (EM lf bp (pU z.hc ⟨I.kind,I.fail,rfl⟩ I.arr (by rw [bp];exact ig q) (fun x hx=>z.oo x (aK hx)) hTd fun st2 n run R b1 b2 b3 b4 b5 b6=>?_))
  rw [bp] at b2
  have b2':lo+n≤jh.length:=lO le b2
  rw [ai] at b4
  have pd:pN (br st2) runs:=by rw [R.2.2];exact I.pend
  refine cN (fun hm=>?_) fun ux=>z.j ⟨b1,b2',b3,b5,b6,P⟩ ⟨R.1,R.2.1,pd,b4,I.srt,I.tie,I.oks⟩ hi
  generalize hfo:min (jh.length - lo) (minRun' jh.length jh.length 0)=fo
  have f2:n≤fo:=by rw [← hfo];exact Nat.le_min.mpr ⟨b2,b7 hm⟩
  have f1:fo≤jh.length - lo:=by rw [← hfo];exact Nat.min_le_left _ _
  have f4:=cY f2
  have hTs:=hTd
  rw [← aG n (jh.drop lo),aA] at hTs
  refine iv (bF (Es lf b3 (ud z.hc (rest:=(jh.drop lo).drop n) ⟨R.1,R.2.1,rfl⟩ (by rw [ai];exact b4) (by rw [b3,bp,bp,cY b2];exact f1) (by rw [b3];exact f2) (by rw [b3];exact b1) b6 (fun x hx=>z.oo x (aK (aJ (b5.mem_iff.mp hx)))) (fun x hx=>z.oo x (aK (aK hx)))
   (fun x hx y hy=>hTs.2.2 x (b5.mem_iff.mp hx) y hy) hTs.2.1 fun st3 run' c1 c2 c3 c4=>?_)))
  rw [b3] at c2 c3
  have g5:run'.Perm ((jh.drop lo).take fo):=by
   refine c3.trans ((b5.append_right _).trans ?_)
   rw [← List.take_add,f4]
  exact z.j (n:=fo) ⟨aI b1 f2,lO le f1,by rw [g5.length_eq,bh,bp];exact bR f1,g5,c4,P⟩ ⟨c1.1,c1.2.1,by rw [c1.2.2];exact pd,by rw [c2,kY,f4,ai],I.srt,I.tie,I.oks⟩ hi
inductive SfI (i:Nat):SU→ah→Prop
 |mk (runs:List (List Keyed)) (st:ah) (I:SI kd ok L T [] st runs) (p:runs.flatten.Perm jh) (h:runs.length+i≤jh.length):SfI i (none,()) st
inductive SfQ:SU→ah→Prop
 |mk (runs:List (List Keyed)) (st:ah) (I:SI kd ok L T [] st runs) (p:runs.flatten.Perm jh) (h:runs.length≤1):SfQ (none,()) st
theorem fi_lt {p:Array (Nat×Nat×Nat)} (h:¬ p.size≤1):D5 p+1<p.size:=by
 obtain ⟨n,hn⟩:∃ n,p.size=n+2:=⟨_,(Nat.sub_add_cancel (dj h)).symm⟩
 unfold D5
 rw [hn,Fd]
 generalize Option.any _ _=b
 cases b with
 |true=>rw [if_pos rfl];exact fB (dJ (eu n 1) 1) (ew _)
 |false=>rw [if_neg jX];exact ew _
theorem Sr.last (z:Sr) {i:Nat} {c:SU} {st:ah} (h:SfI i c st):wpS (model af w) A E s srF (lN (SfI (i+1)) SfQ) st:=by
 cases h with
 |mk runs _ I p h =>
  have hps:=I.pend.1
  exact iA (cN (fun q=>b9 (.mk _ _ I p (by rw [← hps];exact q))) fun q=>sv z.hc I (by rw [← hps];exact fi_lt q) fun st' runs' I' p' hl=> .mk _ _ I' (p'.trans p) (by rw [kP i 1,← dY,hl];exact h))
theorem pT (hc:nN af w A E s kd ok L) {st:ah} {Q:Unit→ah→Prop} (hkd:kindOf st=kd) (hf:dD st=none) (hp:br st=#[]) (harr:(arrOf st).toList=jh)
  (o₀:∀ x∈jh,ok x) (hT:jh.Pairwise T) (h2:2≤jh.length)
  (h:∀ st',dD st'=none→(arrOf st').toList.Perm jh→(arrOf st').toList.Pairwise (RR L T)→Q () st'):wpS (model af w) A E s sortRuns' Q st:=by
 have z:Sr:=⟨hc,o₀,hT⟩
 rw [sf]
 have hz:(arrOf st).size=jh.length:=by rw [← harr,aD]
 refine iA ?_
 rw [hz]
 refine jl Fq SrQ (.mk 0 [] _ ⟨⟨hkd,hf,⟨by rw [hp];rfl,fun S1 S2 r e=>by cases S1 <;> cases e⟩,harr,fun ux h=>absurd h gv,.nil,fun ux h=>absurd h gv⟩,.refl _,dw _⟩ (Nat.min_le_left _ _)) (fun i c ux h=>z.step h) (fun c _ q=>?_) fun c _ q=>?_
 ·cases q with
  |mk lo runs _ h hi =>
   rw [Nat.min_self] at hi
   obtain rfl:=ce h.le hi
   exact .mk _ _ h
 cases q with
 |mk runs _ g =>
  obtain ⟨I,P,_⟩:=g
  rw [List.drop_length] at I
  rw [fm] at P
  refine jl SfI SfQ (.mk _ _ I P (by rw [← P.length_eq];exact B9 I.srt)) (fun i c ux h=>z.last h) (fun c _ q=>?_) fun c _ q=>?_
  ·cases q with
   |mk runs _ I p h=>exact .mk _ _ I p (Nat.le_of_add_le_add_right (b:=jh.length) (aI h (jz _ _)))
  ·cases q with
   |mk runs _ I p hl =>
    have e1:=I.arr
    rw [cA] at e1
    refine ec (h _ I.fail (by rw [e1];exact p) ?_)
    rw [e1]
    match runs,hl with
    |[],_=>exact .nil
    |[r],_=>rw [kT];exact (I.srt r (.head _)).2
theorem lG {A:dM} {E:Value→az→Prop} {s:az} {kd:pR} {ok:Keyed→Prop} {L:Keyed→Keyed→Bool} {T:Keyed→Keyed→Prop} {a₀:List Keyed} (hc:nN af w A E s kd ok L) {st:ah} {Q:Unit→ah→Prop} (hkd:kindOf st=kd) (hf:dD st=none) (hp:br st=#[]) (harr:(arrOf st).toList=a₀)
  (o₀:∀ x∈a₀,ok x) (hT:a₀.Pairwise T) (h2:2≤a₀.length)
  (h:∀ st',dD st'=none→(arrOf st').toList.Perm a₀→(arrOf st').toList.Pairwise (RR L T)→Q () st'):wpS (model af w) A E s sortRuns' Q st:=
 have q:Bp A E s kd ok L T a₀:=eh fun n=>eX (p:=fun x:E7=>¬ Bo x) ⟨(A,E,s,kd,ok,L,T,a₀),n⟩ (fun ux ux hc h1 h2 h3 h4 h5 h6 h7 h8=>pT hc h1 h2 h3 h4 h5 h6 h7 h8)
 q st Q hc hkd hf hp harr o₀ hT h2 h
set_option linter.unusedVariables false
section
variable {A:dM} {E:Value→az→Prop} {s:az} {kd:pR} {ok:Keyed→Prop} {L:Keyed→Keyed→Bool} {T:Keyed→Keyed→Prop}
theorem yP {α:Type}:∀ {l:List α},¬ l.length<2→∃ a b r,l=a::b::r
 |[],h=>absurd (by simp) h
 |[_],h=>absurd (by simp) h
 |a::b::r,_=>⟨a,b,r,rfl⟩
theorem mQ {α:Type} {r:α→α→Prop}:∀ {l:List α},l.length<2→l.Pairwise r
 |[],_=> .nil
 |[x],_=>dK _ _
 |_::_::_,h=>absurd h (by simp)
theorem yV {a:Addr} {vs:List Value} {n:Nat} {P:Fin→az→Prop} (hc:∀ E' h',(∀ b o,b≠a→s.heap.get? b=some o→h'.get? b=some o)→nN af w A E' { s with heap:=h' } kd ok L) (ho:s.heap.get? a=some (bX "list" vs.toArray n))
  (h0:∀ x∈(yF vs).toList,ok x) (hT:(yF vs).toList.Pairwise T) (hkk:2≤vs.length→∀ h',(∀ b o,b≠a→s.heap.get? b=some o→h'.get? b=some o)→∀ (Q:pR→az→Prop) E',Q kd { s with heap:=h' }→wpAny (model af w) A (keyKind' vs.toArray) Q E' { s with heap:=h' }) (hz:vs.length≤aH)
  (h:∀ ps:List Keyed,ps.Perm (yF vs).toList→ps.Pairwise (RR L T)→P (.done (.ret .none)) { s with heap:=sortedHeap s.heap a vs (ps.toArray.map (·.2)) }) :
  wpAny (model af w) A (Builtin.«list.sort» ⟨[.ref a],[]⟩) P E s:=by
 rw [list_sort_plain]
 have ha:a<s.heap.objs.size:=bq ho
 refine ag (listItems_at ho rfl ?_)
 refine ag (nc ho rfl ?_)
 obtain ⟨e1,ho1⟩:∃ e1,(s.heap.update a (a9 fun ux=>#[])).get? a=some (bX "list" #[] e1):=⟨_,jy ho (fun ux=>#[])⟩
 refine ag (seqEpoch_at ho1 rfl ?_)
 refine ag (wpAny_newTuple ?_ (by simpa using hz))
 refine ag (xf ?_)
 refine dq ?_
 have ho6:(((s.heap.update a (a9 fun ux=>#[])).push (bX "tuple" vs.toArray 0)).push (bX "list" #[] 0)).get? a=some (bX "list" #[] e1):=by
  rw [fc _ _ _ (by rw [size_push',fQ];exact cw (cM ha)),fc _ _ _ (by rw [fQ];exact cw ha)]
  exact ho1
 show wpAny (model af w) A _ P E { s with heap:=((s.heap.update a (a9 fun ux=>#[])).push (bX "tuple" vs.toArray 0)).push (bX "list" #[] 0) }
 dsimp only
 have hsz:vs.toArray.size=vs.length:=by simp
 have kp:∀ b o,b≠a→s.heap.get? b=some o→(((s.heap.update a (a9 fun ux=>#[])).push (bX "tuple" vs.toArray 0)).push (bX "list" #[] 0)).get? b=some o:=fun b o hb e=>by
  have lt:=bq e
  rw [fc _ _ _ (by rw [size_push',fQ];exact cw (cM lt)),fc _ _ _ (by rw [fQ];exact cw lt),qH _ _ _ _ hb]
  exact e
 by_cases h2:vs.toArray.size<2
 ·rw [if_pos h2,if_pos h2]
  refine ag (aB ?_)
  rw [StateT.run_pure]
  refine ag (aB ?_)
  dsimp only
  refine ag (seqEpoch_at ho6 rfl ?_)
  refine ag (nc ho6 rfl ?_ (hsz2:=by rw [Array.size_map];show (yF vs).size≤_;rw [pairsOf_size];exact cX hz))
  simp only [bne_self_eq_false,bQ,if_false]
  have:=h (yF vs).toList (pP _) ?_
  ·rw [m7] at this
   exact aB this
  ·have hl:(yF vs).toList.length<2:=by rw [aD,pairsOf_size];omega
   exact mQ hl
 ·rw [if_neg h2,if_neg h2]
  obtain ⟨v₁,v₂,rest,rfl⟩:=yP (fun q=>h2 (by rw [hsz];exact q))
  refine ag (hkk (by simp) _ kp _ _ ?_)
  refine ag (ak (lG (T:=T) (hc E (((s.heap.update a (a9 fun ux=>#[])).push (bX "tuple" (v₁::v₂::rest).toArray 0)).push (bX "list" #[] 0)) kp) (a₀:=(yF (v₁::v₂::rest)).toList) (st:=ah.mk' kd ((v₁::v₂::rest).toArray.zip (v₁::v₂::rest).toArray) #[] 7 none)
   (Q:=fun ux st'=>(arrOf st').toList.Perm (yF (v₁::v₂::rest)).toList∧dD st'=none∧(arrOf st').toList.Pairwise (RR L T))
   rfl rfl rfl rfl h0 hT (by rw [aD,pairsOf_size];simp) fun st' a1 a2 a3=>⟨a2,a1,a3⟩) ?_ fun ux ux e=>e)
  rintro ⟨⟨⟩,st'⟩ s' ⟨rfl,hp,hf,hs⟩
  dsimp only
  refine ag (seqEpoch_at ho6 rfl ?_)
  refine ag (nc ho6 rfl ?_ (hsz2:=by
   have e:=hp.length_eq
   rw [aD,aD,pairsOf_size] at e
   rw [Array.size_map];show (arrOf st').size≤_;rw [e];exact cX hz))
  rw [hf]
  simp only [bne_self_eq_false,bQ,if_false]
  have:=h (arrOf st').toList hp hs
  rw [m7] at this
  exact aB this
theorem o8 {l:Addr} {vs:List Value} {Q:Value→az→Prop} (hc:∀ A' E' h',(∀ b o,s.heap.get? b=some o→h'.get? b=some o)→nN af w A' E' { s with heap:=h' } kd ok L) (hl:s.heap.IsList l vs.toArray)
  (h0:∀ x∈(yF vs).toList,ok x) (hT:(yF vs).toList.Pairwise T) (hkk:2≤vs.length→∀ A' h',(∀ b o,s.heap.get? b=some o→h'.get? b=some o)→∀ (Q:pR→az→Prop) E',Q kd { s with heap:=h' }→wpAny (model af w) A' (keyKind' vs.toArray) Q E' { s with heap:=h' }) (hz:vs.length≤aH)
  (h:∀ ps:List Keyed,ps.Perm (yF vs).toList→ps.Pairwise (RR L T)→Q (.ref (s.heap.objs.size+1)) { s with heap:=sortedAll s.heap vs (ps.toArray.map (·.2)) }) :
  wpAny (model af w) A (call (.builtin "sorted") [.ref l]) Q E s:=by
 refine Calls.call_function_entry kind_sorted plain_sorted entry_sorted (args_sorted1 _) ?_
 unfold Builtin.«sorted»
 refine ag (m:=checkCount "sorted" 1 1 _) (aB ?_)
 refine ag (collect_list hl ?_ (by simpa using hz))
 refine ag (xf ?_ (by simpa using hz))
 have hsz:((s.heap.push (bX "list" #[] 0)).update s.heap.objs.size (a9 (·++vs.toArray))).objs.size=s.heap.objs.size+1:=by
  rw [fQ,size_push']
 have hoL:(((s.heap.push (bX "list" #[] 0)).update s.heap.objs.size (a9 (·++vs.toArray))).push (bX "list" vs.toArray 0)).get? (s.heap.objs.size+1)=some (bX "list" vs.toArray 0):=by
  rw [← hsz];exact aS _ rfl
 have kp:∀ h':Heap,(∀ b o,b≠s.heap.objs.size+1→(((s.heap.push (bX "list" #[] 0)).update s.heap.objs.size (a9 (·++vs.toArray))).push (bX "list" vs.toArray 0)).get? b=some o→h'.get? b=some o)→∀ b o,s.heap.get? b=some o→h'.get? b=some o:=fun h' k b o e=>by
  have lt:=bq e
  refine k b o (cw (cM lt)) ?_
  rw [fc _ _ _ (by rw [hsz];exact cw (cM lt)),qH _ _ _ _ (cw lt),fc _ _ _ (cw lt)]
  exact e
 show wpAny _ _ _ _ _ { s with heap:=((s.heap.push (bX "list" #[] 0)).update s.heap.objs.size (a9 (·++vs.toArray))).push (bX "list" vs.toArray 0) }
 rw [hsz]
 refine ag (dq (ou slot_list_sort ⟨_,hoL,rfl⟩ entry_list_sort (yV (T:=T) (fun E' h' k=>hc _ E' h' (kp h' k)) hoL h0 hT (fun q h' k=>hkk q _ h' (kp h' k)) hz fun ps a1 a2=>⟨_,rfl,?_⟩) (args_list_sort _)))
 exact aB ⟨_,rfl,h ps a1 a2⟩
noncomputable def fy (v:Value):Int:=match v with | .int i _=>i|_=>0
noncomputable def okI (x:Keyed):Prop:=∃ i t,x.1 = .int i t
noncomputable def LI (x y:Keyed):Bool:=decide (fy x.1<fy y.1)
theorem tm:nN af w A E s oneType' okI LI where
 lt:=fun st x y Q ⟨i,t,hx⟩ ⟨j,u,hy⟩ hk h=>by
  rw [lt'_eq]
  refine bF (wpS_get ?_)
  rw [hk,keyLt'_oneType,hx,hy]
  refine bF (wpS_lift (oG (oneLt_int ⟨rfl,?_⟩)))
  have:LI x y=decide (i<j):=by unfold LI;rw [hx,hy];rfl
  rw [this] at h
  exact ec h
 asym:=fun x y _ _ h=>by unfold LI at *;simp only [decide_eq_true_eq,decide_eq_false_iff_not] at *;lia
 neg:=fun x y z _ _ _ h1 h2=>by unfold LI at *;simp only [decide_eq_false_iff_not] at *;lia
theorem oR {α:Type}:∀ (l:List α),(l.zip l).map (·.2)=l
 |[]=>rfl
 |a::l=>by rw [jV,aM,oR l]
theorem mem_zip_self {α:Type}:∀ {l:List α} {p:α×α},p∈l.zip l→p.1=p.2∧p.1∈l
 |a::l,p,h=>by
  rw [jV] at h
  rcases aQ.mp h with q|q
  ·subst q;exact ⟨rfl,.head _⟩
  ·exact ⟨(mem_zip_self q).1,.tail _ (mem_zip_self q).2⟩
theorem ow {l:Addr} {vs:List Value} {Q:Value→az→Prop} (hl:s.heap.IsList l vs.toArray) (hi:∀ v∈vs,∃ i t,v = .int i t) (hz:vs.length≤aH)
  (h:∀ us:List Value,us.Perm vs→us.Pairwise (fun u v=>fy u≤fy v)→Q (.ref (s.heap.objs.size+1)) { s with heap:=sortedAll s.heap vs us.toArray }) :
  wpAny (model af w) A (call (.builtin "sorted") [.ref l]) Q E s:=by
 have allInts:∀ vs:List Value,(∀ v∈vs,∃ i t,v = .int i t)→∃ ns,IntsAre vs ns:=by
  intro vs
  induction vs with
  |nil=>exact fun ux=>⟨[],.nil⟩
  |cons v vs ih =>
   intro h
   obtain ⟨i,t,rfl⟩:=h v (.head _)
   obtain ⟨ns,hn⟩:=ih fun v hv=>h v (.tail _ hv)
   exact ⟨_,.cons i t hn⟩
 refine o8 (T:=fun ux ux=>True) (fun ux ux ux ux=>tm) hl ?_ (List.pairwise_of_forall fun ux ux=>trivial) ?_ hz fun ps hp hs=>?_
 ·intro x hx
  rw [pQ] at hx
  exact hi _ (mem_zip_self hx).2
 ·intro h2 A' h' k Q' E' q
  obtain ⟨v₁,v₂,rest,rfl⟩:=yP (Fb.mpr h2)
  obtain ⟨ns,hn⟩:=allInts _ hi
  rw [keyKind_ints hn]
  exact aB q
 ·have:=h (ps.map (·.2)) ?_ ?_
  ·simpa using this
  ·have:=hp.map (·.2)
   rw [pQ,oR] at this
   exact this
  ·have same:∀ p∈ps,p.1=p.2:=fun p hpp=>by
    have:=hp.mem_iff.mp hpp
    rw [pQ] at this
    exact (mem_zip_self this).1
   rw [cq]
   refine hs.imp_of_mem fun {a b} ha hb hab=>?_
   have:=hab.1
   unfold LI at this
   rw [same b hb,same a ha] at this
   simp only [decide_eq_false_iff_not] at this
   (exact Int.not_lt.mp (by assumption))
end
set_option tactic.hygienic true
noncomputable def fe (w:Int):Nat:=if w≤1 then 0 else (w.toNat - 1).log2+1
theorem jN (w:Int) (k:Nat):fe w≤k↔w≤2 ^ k:=by
 unfold fe
 have hp:(0:Int)<2 ^ k:=Bu (by decide)
 split
 ·rename_i h
  constructor
  ·intro _;lia
  ·intro _;(exact dw _)
 ·rename_i h
  have h1:w.toNat - 1≠0:=by lia
  have e:(w.toNat - 1).log2+1≤k↔(w.toNat - 1).log2<k:=by lia
  rw [e,Nat.log2_lt h1]
  have c:((2 ^ k:Nat):Int)=2 ^ k:=by simp
  constructor
  ·intro q
   have:((w.toNat - 1:Nat):Int)<((2 ^ k:Nat):Int):=by exact_mod_cast q
   rw [c] at this
   lia
  ·intro q
   have:((w.toNat - 1:Nat):Int)<((2 ^ k:Nat):Int):=by rw [c];lia
   exact_mod_cast this
theorem DE (w:Int):w≤2 ^ fe w:=(jN w _).mp (aU _)
theorem cy (k:Nat):(0:Int)<2 ^ k:=Bu (by decide)
theorem dW (k:Nat):(2:Int) ^ (k+1)=2 ^ k+2 ^ k:=by rw [eW];lia
theorem iF {i k:Nat} (h:i≤k):(2:Int) ^ i≤2 ^ k:=by
 induction h with
 |refl=>exact ee _
 |step _ ih=>rename_i m _;have:=dW m;have:=cy m;simp only [Dm];lia
theorem gp {i k:Nat} (h:i<k):(2:Int) ^ i<2 ^ k:=by
 have h1:=iF (show i+1≤k from h)
 have:=dW i;have:=cy i;omega
theorem lx {i k:Nat} (h:(2:Int) ^ i=2 ^ k):i=k:=by
 rcases Nat.lt_trichotomy i k with q|q|q
 ·have:=gp q;lia
 ·exact q
 ·have:=gp q;lia
theorem iE {i k:Nat}:(2:Int) ^ i≤2 ^ k↔i≤k:=by
 constructor
 ·intro h
  rcases dE k i with q|q
  ·have:=gp q;lia
  ·exact q
 ·exact iF
theorem lA {i k:Nat} (h:i≤k):(2:Int) ^ i ∣ 2 ^ k:=⟨2 ^ (k - i),by rw [← Int.pow_add];congr 1;lia⟩
inductive BT:Nat→Type
 |fr {k:Nat}:BT k
 |ot {k:Nat}:BT k
 |nd {k:Nat} (l r:BT k):BT (k+1)
noncomputable def cI (b:Bool):{k:Nat}→Int→BT k→List (Int×Int)
 |k,a,.fr=>if b then [] else [(a,2 ^ k)]
 |k,a,.ot=>if b then [(a,2 ^ k)] else []
 |k+1,a,.nd l r=>cI b a l++cI b (a+2 ^ k) r
noncomputable def cn:{k:Nat}→BT k→Prop
 |_,.fr=>True
 |_,.ot=>True
 |_+1,.nd l r=>¬ (l = .fr∧r = .fr)∧cn l∧cn r
inductive Cx (k:Nat):(i:Nat)→Int→(BT i→BT k)→Prop
 |top:Cx k k 0 id
 |left {i x} {C:BT (i+1)→BT k} (r:BT i):Cx k (i+1) x C→Cx k i x (fun v=>C (.nd v r))
 |right {i x} {C:BT (i+1)→BT k} (l:BT i):Cx k (i+1) x C→Cx k i (x+2 ^ i) (fun v=>C (.nd l v))
theorem Cx.le {k i x} {C:BT i→BT k} (h:Cx k i x C):i≤k:=by
 induction h with
 |top=>exact aU _
 |left _ _ ih=>lia
 |right _ _ ih=>lia
theorem Cx.split {k i x} {C:BT i→BT k} (h:Cx k i x C):∃ pre post:Bool→List (Int×Int),∀ b v,cI b 0 (C v)=pre b++cI b x v++post b:=by
 induction h with
 |top=>exact ⟨fun ux=>[],fun ux=>[],fun b v=>by simp⟩
 |left r _ ih =>
  rename_i i x C _
  obtain ⟨pre,post,e⟩:=ih
  exact ⟨pre,fun b=>cI b (x+2 ^ i) r++post b,fun b v=>by rw [e];simp [cI]⟩
 |right l _ ih =>
  rename_i i x C _
  obtain ⟨pre,post,e⟩:=ih
  exact ⟨fun b=>pre b++cI b x l,post,fun b v=>by rw [e];simp [cI]⟩
theorem Cx.al {k i x} {C:BT i→BT k} (h:Cx k i x C):0≤x∧x+2 ^ i≤2 ^ k∧x % 2 ^ i=0:=by
 induction h with
 |top=>simp
 |@left i x C _ _ ih =>
  have:=dW i;have:=cy i
  refine ⟨ih.1,by omega,?_⟩
  exact eH (mi (lA (fV i)) (bE ih.2.2))
 |@right i x C _ _ ih =>
  have:=dW i;have:=cy i
  refine ⟨by omega,by omega,?_⟩
  rw [gV]
  exact eH (mi (lA (fV i)) (bE ih.2.2))
noncomputable def l0 (b:Bool) {k:Nat}:BT k:=if b then .ot else .fr
theorem o9 (b:Bool) (k:Nat) (a:Int):cI b a (l0 (!b):BT k)=[]:=by cases b <;> cases k <;> rfl
@[simp] theorem pcs_fr_f {k:Nat} {a:Int}:cI false a (.fr:BT k)=[(a,2 ^ k)]:=by cases k <;> rfl
@[simp] theorem pcs_fr_t {k:Nat} {a:Int}:cI true a (.fr:BT k)=[]:=by cases k <;> rfl
@[simp] theorem pcs_ot_f {k:Nat} {a:Int}:cI false a (.ot:BT k)=[]:=by cases k <;> rfl
@[simp] theorem pcs_ot_t {k:Nat} {a:Int}:cI true a (.ot:BT k)=[(a,2 ^ k)]:=by cases k <;> rfl
@[simp] theorem pcs_nd {b:Bool} {k:Nat} {a:Int} {l r:BT k}:cI b a (.nd l r)=cI b a l++cI b (a+2 ^ k) r:=rfl
theorem Cx.find_aux {b:Bool} {y s:Int} {k:Nat}:∀ {j:Nat} (t:BT j) {a:Int} {D:BT j→BT k},Cx k j a D→(y,s)∈cI b a t→∃ i,∃ C:BT i→BT k,Cx k i y C∧D t=C (l0 b)∧s=2 ^ i:=by
 intro j t
 induction t with
 |fr =>
  intro a D hD hm
  cases b
  ·simp at hm
   obtain ⟨rfl,rfl⟩:=hm
   exact ⟨_,D,hD,rfl,rfl⟩
  ·simp at hm
 |ot =>
  intro a D hD hm
  cases b
  ·simp at hm
  ·simp at hm
   obtain ⟨rfl,rfl⟩:=hm
   exact ⟨_,D,hD,rfl,rfl⟩
 |nd l r ihl ihr =>
  intro a D hD hm
  rw [pcs_nd,ay] at hm
  rcases hm with hm|hm
  ·exact ihl (.left r hD) hm
  ·exact ihr (.right l hD) hm
theorem Cx.find {b:Bool} {y s:Int} {k:Nat} {t:BT k} (hm:(y,s)∈cI b 0 t):∃ i,∃ C:BT i→BT k,Cx k i y C∧t=C (l0 b)∧s=2 ^ i:=
 Cx.find_aux t .top hm
theorem cr {b:Bool} {k:Nat} (t:BT k):∀ {a:Int} {p:Int×Int},p∈cI b a t→a≤p.1∧p.1+p.2≤a+2 ^ k∧0<p.2:=by
 induction t with
 |fr=>intro a p hp;cases b <;> simp at hp;subst hp;have:=cy ‹Nat›;exact ⟨ee _,ee _,this⟩
 |ot=>intro a p hp;cases b <;> simp at hp;subst hp;have:=cy ‹Nat›;exact ⟨ee _,ee _,this⟩
 |nd l r ihl ihr =>
  rename_i k
  intro a p hp
  rw [pcs_nd,ay] at hp
  have:=dW k;have:=cy k
  rcases hp with hp|hp
  ·have:=ihl hp;omega
  ·have:=ihr hp;omega
noncomputable def Apart (p q:Int×Int):Prop:=p.1+p.2≤q.1
theorem jH {b:Bool} {k:Nat} (t:BT k):∀ {a:Int},(cI b a t).Pairwise Apart:=by
 induction t with
 |fr=>intro a;cases b <;> simp
 |ot=>intro a;cases b <;> simp
 |nd l r ihl ihr =>
  intro a
  rw [pcs_nd,aA]
  refine ⟨ihl,ihr,fun p hp q hq=>?_⟩
  have:=cr l hp
  have:=cr r hq
  unfold Apart;omega
theorem qm {k:Nat} (t:BT k):∀ {a:Int} {p q:Int×Int},p∈cI true a t→q∈cI false a t→Apart p q∨Apart q p:=by
 induction t with
 |fr=>intro a p q hp;simp at hp
 |ot=>intro a p q _ hq;simp at hq
 |nd l r ihl ihr =>
  intro a p q hp hq
  rw [pcs_nd,ay] at hp hq
  rcases hp with hp|hp <;> rcases hq with hq|hq
  ·exact ihl hp hq
  ·have:=cr l hp;have:=cr r hq;left;unfold Apart;omega
  ·have:=cr r hp;have:=cr l hq;right;unfold Apart;omega
  ·exact ihr hp hq
set_option tactic.hygienic false
noncomputable def du (d:List (Int×Int)) (k:Int):Option Int:=(d.find? fun p=>decide (p.1=k)).map (·.2)
noncomputable def dS (d:List (Int×Int)) (k:Int):List (Int×Int):=d.filter fun p=>decide (p.1≠k)
noncomputable def iH (d:List (Int×Int)) (k v:Int):List (Int×Int):=
 if d.any (fun p=>decide (p.1=k)) then d.map (fun p=>if p.1=k then (p.1,v) else p) else d++[(k,v)]
noncomputable def gE (d:List (Int×Int)):Prop:=(d.map (·.1)).Nodup
theorem gK {d e:List (Int×Int)} (h:d.Perm e):gE d↔gE e:=(h.map _).nodup_iff
theorem cH {d:List (Int×Int)} (hk:gE d) {k v:Int}:du d k=some v↔(k,v)∈d:=by
 induction d with
 |nil=>simp [du]
 |cons p d ih =>
  obtain ⟨a,b⟩:=p
  unfold gE at hk
  simp only [aM,jA] at hk
  have ih:=ih hk.2
  unfold du at ih ⊢
  rw [w5]
  by_cases q:a=k
  ·subst q
   simp
   constructor
   ·intro e;exact .inl e.symm
   ·rintro (e|e)
    ·exact e.symm
    ·exact absurd (bx.mpr ⟨_,e,rfl⟩) hk.1
  ·simp only [q,decide_false]
   rw [ih]
   simp [bl q]
theorem nC {d e:List (Int×Int)} (h:d.Perm e) (k:Int):(dS d k).Perm (dS e k):=h.filter _
theorem mV {d:List (Int×Int)} {k v:Int} (h:∀ u,(k,u)∉d):iH d k v=d++[(k,v)]:=by
 unfold iH
 rw [if_neg]
 simp only [List.any_eq_true,not_exists,not_and]
 rintro ⟨a,b⟩ hp q
 simp at q;subst q;exact h b hp
theorem qw {d:List (Int×Int)} {k:Int} (h:∀ u,(k,u)∉d):dS d k=d:=by
 unfold dS
 rw [bS]
 rintro ⟨a,b⟩ hp
 simp only [decide_eq_true_eq,ne_eq]
 intro q;subst q;exact h b hp
theorem jR {d pre post:List (Int×Int)} {k v:Int} (hk:gE d) (h:d.Perm (pre++(k,v)::post)):(dS d k).Perm (pre++post):=by
 have hk':=(gK h).mp hk
 refine (nC h k).trans ?_
 unfold gE at hk'
 simp only [bu,aM,ij,jA] at hk'
 have e1:dS pre k=pre:=qw fun u hu=>hk'.2.2 k (bx.mpr ⟨_,hu,rfl⟩) k (.head _) rfl
 have e2:dS post k=post:=qw fun u hu=>hk'.2.1.1 (bx.mpr ⟨_,hu,rfl⟩)
 unfold dS at e1 e2 ⊢
 rw [dH,cj]
 simp only [e1,e2]
 simp
theorem mD {b:Bool} {k:Nat} (t:BT k) {a:Int}:gE (cI b a t):=by
 unfold gE
 rw [List.Nodup,cq]
 refine List.Pairwise.imp_of_mem ?_ (jH t (a:=a) (b:=b))
 intro p q hp hq h e
 have:=cr t hp
 unfold Apart at h;lia
noncomputable def nh (x:Int):Nat→Nat→List (Int×Int)   -- from level i down to level j,as `halve` puts them
 |0,_=>[]
 |i+1,j=>if j≤i then (x+2 ^ i,2 ^ i)::nh x i j else []
noncomputable def rR:(i:Nat)→Nat→BT i
 |0,_=> .ot
 |i+1,j=>if j≤i then .nd (rR i j) .fr else .ot
theorem uX {i j:Nat}:rR i j ≠ .fr:=by
 cases i with
 |zero=>unfold rR;intro h;cases h
 |succ i=>unfold rR;split <;> (intro h;cases h)
theorem AR {i j:Nat}:cn (rR i j):=by
 induction i with
 |zero=>exact trivial
 |succ i ih =>
  unfold rR
  split
  ·exact ⟨fun h=>uX h.1,ih,by cases i <;> exact trivial⟩
  ·exact trivial
theorem nt {i j:Nat} (h:j≤i) {x:Int}:cI true x (rR i j)=[(x,2 ^ j)]:=by
 induction i with
 |zero =>
  have:j=0:=by lia
  subst this;simp [rR]
 |succ i ih =>
  unfold rR
  split
  ·rename_i q;simp [ih q]
  ·have:j=i+1:=by lia
   subst this;simp
theorem nu {i j:Nat} {x:Int}:cI false x (rR i j)=(nh x i j).reverse:=by
 induction i with
 |zero=>simp [rR,nh]
 |succ i ih =>
  unfold rR nh
  split
  ·simp [ih]
  ·simp
theorem Cx.cn_hole {k i x} {C:BT i→BT k} (h:Cx k i x C):∀ {v:BT i},cn (C v)→cn v:=by
 induction h with
 |top=>intro v hv;exact hv
 |left r _ ih=>intro v hv;exact (ih hv).2.1
 |right l _ ih=>intro v hv;exact (ih hv).2.2
theorem Cx.cn_swap {k i x} {C:BT i→BT k} (h:Cx k i x C):∀ {v u:BT i},cn (C v)→cn u→u ≠ .fr→cn (C u):=by
 induction h with
 |top=>intro v u _ hu _;exact hu
 |left r hC ih =>
  intro v u hv hu hn
  have h1:=hC.cn_hole hv
  exact ih hv ⟨fun q=>hn q.1,hu,h1.2.2⟩ (by intro q;cases q)
 |right l hC ih =>
  intro v u hv hu hn
  have h1:=hC.cn_hole hv
  exact ih hv ⟨fun q=>hn q.2,h1.2.1,hu⟩ (by intro q;cases q)
structure hV {k:Nat} (t:BT k) (sp hd:List (Int×Int)):Prop where
 sp:sp.Perm (cI false 0 t)
 hd:hd.Perm (cI true 0 t)
theorem hV.ksp {k} {t:BT k} {sp hd} (h:hV t sp hd):gE sp:=(gK h.sp).mpr (mD t)
theorem hV.khd {k} {t:BT k} {sp hd} (h:hV t sp hd):gE hd:=(gK h.hd).mpr (mD t)
theorem Cc (k:Nat):hV (.fr:BT k) [(0,2 ^ k)] []:=⟨by simp,by simp⟩
theorem Cx.off {k i x} {C:BT i→BT k} (h:Cx k i x C) {b b':Bool} {v:BT i} {p:Int×Int} :
  ∀ {pre post:Bool→List (Int×Int)},(∀ b v,cI b 0 (C v)=pre b++cI b x v++post b)→p∈pre b++post b→p.1+p.2≤x∨x+2 ^ i≤p.1:=by
 intro pre post e hp
 -- compare with the hole filled by a l0 of either kind
 cases b with
 |false =>
  have hq:(x,2 ^ i)∈cI true 0 (C .ot):=by rw [e];simp
  have hp':p∈cI false 0 (C .ot):=by rw [e];simpa using hp
  rcases qm _ hq hp' with q|q
  ·right;exact q
  ·left;exact q
 |true =>
  have hq:(x,2 ^ i)∈cI false 0 (C .fr):=by rw [e];simp
  have hp':p∈cI true 0 (C .fr):=by rw [e];simpa using hp
  rcases qm _ hp' hq with q|q
  ·left;exact q
  ·right;exact q
theorem yN {x:Int} {i j:Nat} {p:Int×Int} (h:p∈nh x i j):∃ m,j≤m∧m<i∧p=(x+2 ^ m,2 ^ m):=by
 induction i with
 |zero=>simp [nh] at h
 |succ i ih =>
  unfold nh at h
  split at h
  ·rename_i q
   rcases aQ.mp h with h|h
   ·exact ⟨i,q,by (exact aU _),h⟩
   ·obtain ⟨m,a,b,c⟩:=ih h;exact ⟨m,a,by (exact cM (by assumption)),c⟩
  ·cases h
theorem hV.give {k:Nat} {t:BT k} {sp hd:List (Int×Int)} (R:hV t sp hd) {x:Int} {i j:Nat} (hx:(x,(2:Int) ^ i)∈sp) (hj:j≤i) :
  ∃ t':BT k,hV t' (dS sp x++nh x i j) (hd++[(x,2 ^ j)])∧(cn t→cn t')∧(∀ u,(x,u)∉hd)∧(∀ m,m<i→∀ u,(x+2 ^ m,u)∉dS sp x):=by
 obtain ⟨i',C,hC,rfl,e⟩:=Cx.find (R.sp.mem_iff.mp hx)
 have:=lx e;subst this
 obtain ⟨pre,post,sp'⟩:=hC.split
 refine ⟨C (rR i j),⟨?_,?_⟩,fun h=>hC.cn_swap h AR uX,?_,?_⟩
 ·rw [sp',nu]
  have h1:sp.Perm (pre false++(x,2 ^ i)::post false):=by have:=R.sp;rw [sp'] at this;simpa [l0] using this
  refine ((jR R.ksp h1).append_right _).trans ?_
  rw [ai,ai]
  refine bK _ ?_
  refine (bA).trans ?_
  exact eV _ (kR _).symm
 ·rw [sp',nt hj]
  have h1:hd.Perm (pre true++post true):=by have:=R.hd;rw [sp'] at this;simpa [l0] using this
  refine (h1.append_right _).trans ?_
  rw [ai,ai]
  exact bK _ bA
 ·intro u hu
  have h1:(x,u)∈pre true++post true:=by
   have:=R.hd.mem_iff.mp hu;rw [sp'] at this;simpa [l0] using this
  have h2:=cr (C .fr) (b:=true) (a:=0) (p:=(x,u)) (by rw [sp'];simpa using h1)
  have:=hC.off (b':=true) (v:=.fr) sp' h1
  have:=cy i
  simp only at *
  lia
 ·intro m hm u hu
  have h1:sp.Perm (pre false++(x,2 ^ i)::post false):=by have:=R.sp;rw [sp'] at this;simpa [l0] using this
  have h2:=(jR R.ksp h1).mem_iff.mp hu
  have h3:=cr (C .ot) (b:=false) (a:=0) (p:=(x+2 ^ m,u)) (by rw [sp'];simpa using h2)
  have h4:=hC.off (b':=true) (v:=.fr) sp' h2
  have:=cy m;have:=gp hm
  simp only at *
  lia
noncomputable def kg (a s:Int):Int:=if a / s % 2=0 then a+s else a - s
theorem te {x:Int} {i:Nat} (h:x % 2 ^ i=0):x / 2 ^ i % 2=0↔x % 2 ^ (i+1)=0:=by
 have hp:=cy i
 obtain ⟨q,rfl⟩:=bE h
 rw [f5 _ (by lia),eW,Int.mul_emod_mul_of_pos _ _ hp]
 constructor
 ·intro e;rw [e];simp
 ·intro e
  rcases Int.mul_eq_zero.mp e with e|e
  ·lia
  ·exact e
theorem xn {x:Int} {i:Nat} (h:x % 2 ^ (i+1)=0):kg x (2 ^ i)=x+2 ^ i:=by
 have h':x % 2 ^ i=0:=eH (mi (lA (fV i)) (bE h))
 unfold kg
 rw [if_pos ((te h').mpr h)]
theorem ui {x:Int} {i:Nat} (h:x % 2 ^ (i+1)=0):kg (x+2 ^ i) (2 ^ i)=x:=by
 have hp:=cy i
 have h':x % 2 ^ i=0:=eH (mi (lA (fV i)) (bE h))
 have h2:(x+2 ^ i) % 2 ^ i=0:=by rw [gV];exact h'
 unfold kg
 rw [if_neg]
 ·lia
 ·rw [te h2,Int.add_emod,h,Int.zero_add,Int.emod_emod_of_dvd _ (Int.dvd_refl _),Int.emod_eq_of_lt (by (exact gU (by assumption))) (gp (ew i))]
  lia
theorem ji {b:Bool} {i:Nat} {a:Int} {r:BT i} (h:(a,2 ^ i)∈cI b a r):r=l0 b:=by
 cases r with
 |fr=>cases b with
  |true=>simp at h
  |false=>rfl
 |ot=>cases b with
  |true=>rfl
  |false=>simp at h
 |@nd i l r =>
  exfalso
  rw [pcs_nd,ay] at h
  have:=cy i
  have:=dW i
  rcases h with h|h
  ·have:=(cr _ h).2.1
   simp only at this;lia
  ·have:=(cr _ h).1
   simp only at this;lia
theorem Cx.in_hole {k i x} {C:BT i→BT k} (h:Cx k i x C) {b:Bool} {v:BT i} {y s:Int} (hm:(y,s)∈cI b 0 (C v)) (h1:x≤y) (h2:y<x+2 ^ i):(y,s)∈cI b x v:=by
 obtain ⟨pre,post,e⟩:=h.split
 rw [e] at hm
 have:(y,s)∈pre b++post b∨(y,s)∈cI b x v:=by
  simp only [ay] at hm ⊢
  rcases hm with (hm|hm)|hm
  ·exact .inl (.inl hm)
  ·exact .inr hm
  ·exact .inl (.inr hm)
 rcases this with q|q
 ·exfalso
  have h3:=h.off (b':=b) (v:=v) e q
  have h4:0<s:=by
   have:=cr (C (l0 (!b))) (b:=b) (a:=0) (p:=(y,s)) (by rw [e,o9];simpa using q)
   exact this.2.2
  simp only at h3;lia
 ·exact q
theorem Cx.has_hole {k i x} {C:BT i→BT k} (h:Cx k i x C) {b:Bool} {v:BT i} {p:Int×Int} (hm:p∈cI b x v):p∈cI b 0 (C v):=by
 obtain ⟨pre,post,e⟩:=h.split
 rw [e];simp [hm]
noncomputable def TB (k i:Nat) (x:Int) (sp hd:List (Int×Int)):Prop:=∃ C:BT i→BT k,Cx k i x C∧sp.Perm (cI false 0 (C .ot))∧hd.Perm (cI true 0 (C .fr))∧cn (C .ot)
theorem TB.start {k:Nat} {t:BT k} {sp hd:List (Int×Int)} (R:hV t sp hd) (hc:cn t) {x s:Int} (hx:(x,s)∈hd):∃ i,s=2 ^ i∧i≤k∧TB k i x sp (dS hd x):=by
 obtain ⟨i,C,hC,rfl,rfl⟩:=Cx.find (R.hd.mem_iff.mp hx)
 refine ⟨i,rfl,hC.le,C,hC,R.sp,?_,hc⟩
 obtain ⟨pre,post,e⟩:=hC.split
 rw [e]
 have h1:hd.Perm (pre true++(x,2 ^ i)::post true):=by have:=R.hd;rw [e] at this;simpa [l0] using this
 simpa using jR R.khd h1
theorem TB.le {k i:Nat} {x:Int} {sp hd} (T:TB k i x sp hd):i≤k:=let ⟨_,h,_⟩:=T;h.le
theorem TB.keys {k i:Nat} {x:Int} {sp hd} (T:TB k i x sp hd):gE sp:=let ⟨_,h,h1,_⟩:=T;(gK h1).mpr (mD _)
theorem TB.none {k i:Nat} {x:Int} {sp hd} (T:TB k i x sp hd) (u:Int):(x,u)∉sp:=fun hu=>by
 obtain ⟨C,hC,h1,_⟩:=T
 have:=hC.in_hole (h1.mem_iff.mp hu) (ee _) (by have:=cy i;lia)
 simp at this
theorem TB.fill {k i:Nat} {x:Int} {sp hd:List (Int×Int)} {C:BT i→BT k} (hC:Cx k i x C) (h1:sp.Perm (cI false 0 (C .ot))) (h2:hd.Perm (cI true 0 (C .fr))) (hn:∀ u,(x,u)∉sp):hV (C .fr) (iH sp x (2 ^ i)) hd:=by
 refine ⟨?_,h2⟩
 obtain ⟨pre,post,e⟩:=hC.split
 rw [mV hn,e]
 rw [e] at h1
 simp only [pcs_ot_f,pcs_fr_f,cA] at h1 ⊢
 refine (h1.append_right _).trans ?_
 rw [ai,ai]
 exact bK _ bA
theorem TB.top {k:Nat} {x:Int} {sp hd:List (Int×Int)} (T:TB k k x sp hd):∃ t:BT k,cn t∧hV t (iH sp x (2 ^ k)) hd:=by
 have hn:=T.none
 obtain ⟨C,hC,h1,h2,h3⟩:=T
 refine ⟨C .fr,?_,TB.fill hC h1 h2 hn⟩
 have:∀ {i x} {C:BT i→BT k},Cx k i x C→i=k→cn (C .fr):=by
  intro i x C h
  cases h with
  |top=>intro _;cases k <;> exact trivial
  |left r h=>intro q;have:=h.le;lia
  |right r h=>intro q;have:=h.le;lia
 exact this hC rfl
theorem TB.step {k i:Nat} {x:Int} {sp hd:List (Int×Int)} (T:TB k i x sp hd) (hi:i<k) :
  (du sp (kg x (2 ^ i))=some (2 ^ i)→TB k (i+1) (min x (kg x (2 ^ i))) (dS sp (kg x (2 ^ i))) hd)∧(du sp (kg x (2 ^ i))≠some (2 ^ i)→∃ t:BT k,cn t∧hV t (iH sp x (2 ^ i)) hd):=by
 have hn:=T.none
 have hk:=T.keys
 have hp:=cy i
 have hs:=dW i
 obtain ⟨C,hC,h1,h2,h3⟩:=T
 cases hC with
 |top=>(exact absurd (by assumption) (ba _))
 |@left _ _ C r hC =>
  have al:=hC.al
  rw [xn al.2.2,cH hk]
  constructor
  ·intro hm
   have hr:r = .fr:=by
    have:=hC.in_hole (h1.mem_iff.mp hm) (by lia) (by lia)
    rw [pcs_nd,ay] at this
    rcases this with q|q
    ·simp at q
    ·exact ji q
   subst hr
   rw [show min x (x+2 ^ i)=x by lia]
   obtain ⟨pre,post,e⟩:=hC.split
   refine ⟨C,hC,?_,?_,hC.cn_swap h3 (by exact trivial) (by intro q;cases q)⟩
   ·have h1':sp.Perm (pre false++(x+2 ^ i,2 ^ i)::post false):=by have:=h1;rw [e] at this;simpa using this
    rw [e];simpa using jR hk h1'
   ·rw [e] at h2 ⊢;simpa using h2
  ·intro hm
   have hr:r ≠ .fr:=fun q=>by
    subst q
    exact hm ((cH hk).mpr (h1.mem_iff.mpr (hC.has_hole (by simp))))
   refine ⟨_,?_,TB.fill (.left r hC) h1 h2 hn⟩
   have h4:=hC.cn_hole h3
   exact hC.cn_swap h3 ⟨fun q=>hr q.2,by cases i <;> exact trivial,h4.2.2⟩ (by intro q;cases q)
 |@right _ x C l hC =>
  have al:=hC.al
  rw [ui al.2.2,cH hk]
  constructor
  ·intro hm
   have hr:l = .fr:=by
    have:=hC.in_hole (h1.mem_iff.mp hm) (by (exact ee _)) (by lia)
    rw [pcs_nd,ay] at this
    rcases this with q|q
    ·exact ji q
    ·simp at q
   subst hr
   rw [show min (x+2 ^ i) x=x by lia]
   obtain ⟨pre,post,e⟩:=hC.split
   refine ⟨C,hC,?_,?_,hC.cn_swap h3 (by exact trivial) (by intro q;cases q)⟩
   ·have h1':sp.Perm (pre false++(x,2 ^ i)::post false):=by have:=h1;rw [e] at this;simpa using this
    rw [e];simpa using jR hk h1'
   ·rw [e] at h2 ⊢;simpa using h2
  ·intro hm
   have hr:l ≠ .fr:=fun q=>by
    subst q
    exact hm ((cH hk).mpr (h1.mem_iff.mpr (hC.has_hole (by simp))))
   refine ⟨_,?_,TB.fill (.right l hC) h1 h2 hn⟩
   have h4:=hC.cn_hole h3
   exact hC.cn_swap h3 ⟨fun q=>hr q.1,h4.2.1,by cases i <;> exact trivial⟩ (by intro q;cases q)
theorem mU {d pre post:List (Int×Int)} {k v u:Int} (hk:gE d) (h:d.Perm (pre++(k,v)::post)):(iH d k u).Perm (pre++(k,u)::post):=by
 have hk':=(gK h).mp hk
 unfold gE at hk'
 simp only [bu,aM,ij,jA] at hk'
 unfold iH
 rw [if_pos (by simp only [List.any_eq_true];exact ⟨(k,v),h.mem_iff.mpr (by simp),by simp⟩)]
 refine (h.map _).trans ?_
 have e1:pre.map (fun p=>if p.1=k then (p.1,u) else p)=pre:=by
  refine (jc (g:=id) ?_).trans (jZ _)
  rintro ⟨a,b⟩ hp
  rw [if_neg];· rfl
  intro q;exact hk'.2.2 a (bx.mpr ⟨_,hp,rfl⟩) k (.head _) q
 have e2:post.map (fun p=>if p.1=k then (p.1,u) else p)=post:=by
  refine (jc (g:=id) ?_).trans (jZ _)
  rintro ⟨a,b⟩ hp
  rw [if_neg];· rfl
  intro q;exact hk'.2.1.1 (bx.mpr ⟨_,hp,q⟩)
 rw [bu,aM,e1,e2,if_pos rfl]
theorem hV.shrink {k:Nat} {t:BT k} {sp hd:List (Int×Int)} (R:hV t sp hd) {x:Int} {i j:Nat} (hx:(x,(2:Int) ^ i)∈hd) (hj:j≤i) :
  ∃ t':BT k,hV t' (sp++nh x i j) (iH hd x (2 ^ j))∧(cn t→cn t')∧(∀ m,m<i→∀ u,(x+2 ^ m,u)∉sp):=by
 obtain ⟨i',C,hC,rfl,e⟩:=Cx.find (R.hd.mem_iff.mp hx)
 have:=lx e;subst this
 obtain ⟨pre,post,sp'⟩:=hC.split
 refine ⟨C (rR i j),⟨?_,?_⟩,fun h=>hC.cn_swap h AR uX,?_⟩
 ·rw [sp',nu]
  have h1:sp.Perm (pre false++post false):=by have:=R.sp;rw [sp'] at this;simpa [l0] using this
  refine (h1.append_right _).trans ?_
  rw [ai,ai]
  refine bK _ ?_
  refine (bA).trans ?_
  exact eV _ (kR _).symm
 ·rw [sp',nt hj]
  have h1:hd.Perm (pre true++(x,2 ^ i)::post true):=by have:=R.hd;rw [sp'] at this;simpa [l0] using this
  simpa using mU (u:=2 ^ j) R.khd h1
 ·intro m hm u hu
  have:=hC.in_hole (R.sp.mem_iff.mp hu) (by have:=cy m;lia) (by have:=gp hm;lia)
  simp [l0] at this
noncomputable def TG (k i m:Nat) (x:Int) (t:BT k):Prop:=∃ C:BT m→BT k,Cx k m x C∧t=C (rR m i)∧i≤m
theorem TG.start {k:Nat} {t:BT k} {sp hd:List (Int×Int)} (R:hV t sp hd) {x:Int} {i:Nat} (hx:(x,(2:Int) ^ i)∈hd):TG k i i x t:=by
 obtain ⟨i',C,hC,rfl,e⟩:=Cx.find (R.hd.mem_iff.mp hx)
 have:=lx e;subst this
 refine ⟨C,hC,?_,aU _⟩
 congr 1
 cases i with
 |zero=>rfl
 |succ i=>unfold rR;rw [if_neg (by lia)];rfl
theorem TG.step {k i m j:Nat} {x:Int} {t:BT k} {sp hd:List (Int×Int)} (R:hV t sp hd) (T:TG k i m x t) (hm:m<j) (hj:x % 2 ^ j=0) (hd':(x+2 ^ m,(2:Int) ^ m)∈sp):TG k i (m+1) x t:=by
 obtain ⟨C,hC,rfl,him⟩:=T
 have hx:x % 2 ^ (m+1)=0:=eH (mi (lA (show m+1≤j from hm)) (bE hj))
 have hp:=cy m
 have hs:=dW m
 cases hC with
 |top=>have:=(cr _ (R.sp.mem_iff.mp hd')).2.1;simp only at this;lia
 |@left _ _ C r hC =>
  have:=hC.in_hole (R.sp.mem_iff.mp hd') (by lia) (by lia)
  rw [pcs_nd,ay] at this
  rcases this with q|q
  ·have:=(cr _ q).2.1;simp only at this;lia
  ·have hr:=ji q
   subst hr
   refine ⟨C,hC,?_,by (exact cX (by assumption))⟩
   show C (.nd (rR m i) .fr)=C (rR (m+1) i)
   congr 1
   show _=if i≤m then _ else _
   rw [if_pos him]
 |@right _ x C l hC =>
  have h1:=hC.al.2.2
  rw [Int.add_emod,h1,Int.zero_add,Int.emod_emod_of_dvd _ (Int.dvd_refl _),Int.emod_eq_of_lt (by (exact gU (by assumption))) (gp (ew m))] at hx
  lia
noncomputable def iW (d:List (Int×Int)):List Int→List (Int×Int)
 |[]=>d
 |p::r=>iW (dS d p) r
noncomputable def g7 (x:Int) (i:Nat):Nat→List Int    -- x+2^i,..,x+2^(m-1)
 |0=>[]
 |m+1=>if i≤m then g7 x i m++[x+2 ^ m] else []
theorem yk:∀ {l:List Int} {d:List (Int×Int)} {p:Int},iW d (l++[p])=dS (iW d l) p:=by
 intro l9
 induction l9 with
 |nil =>
  rintro _ _
  exact rfl
 |cons q l ih9 =>
  rintro d p
  show iW (dS d q) (l++[p])=_;rw [ih9];rfl
theorem AL {d:List (Int×Int)}:∀ {l:List Int} {a b:Int},(a,b)∈iW d l↔(a,b)∈d∧a∉l:=by
 intro l
 induction l generalizing d with
 |nil=>intro a b;simp [iW]
 |cons q l ih =>
  intro a b
  show (a,b)∈iW (dS d q) l↔_
  rw [ih]
  unfold dS
  simp [and_assoc]
theorem yl {l:List Int}:∀ {d e:List (Int×Int)},d.Perm e→(iW d l).Perm (iW e l):=by
 induction l with
 |nil=>intro d e h;exact h
 |cons q l ih=>intro d e h;exact ih (nC h q)
theorem kF {l:List Int}:∀ {d:List (Int×Int)},iW d l=d.filter fun p=>decide (p.1∉l):=by
 induction l with
 |nil=>intro d;exact (bS.mpr fun ux ux=>rfl).symm
 |cons q l ih =>
  intro d
  show iW (dS d q) l=_
  rw [ih];unfold dS;rw [List.filter_filter]
  congr 1;funext x;simp [Bool.and_comm]
theorem kf {x:Int} {i:Nat}:∀ {m:Nat} {p:Int},p∈g7 x i m↔∃ e,i≤e∧e<m∧p=x+2 ^ e
 |0,p=>by simp [g7]
 |m+1,p=>by
  unfold g7
  split
  ·rename_i h
   rw [ay,kf,aC]
   constructor
   ·rintro (⟨e,h1,h2,h3⟩|h1)
    ·exact ⟨e,h1,by (exact cM (by assumption)),h3⟩
    ·exact ⟨m,h,by (exact aU _),h1⟩
   ·rintro ⟨e,h1,h2,h3⟩
    rcases fY.mp h2 with q|q
    ·exact .inl ⟨e,h1,q,h3⟩
    ·subst q;exact .inr h3
  ·simp;intro e h1 h2;lia
theorem TG.done {k i j:Nat} {x:Int} {t:BT k} {sp hd:List (Int×Int)} (R:hV t sp hd) (T:TG k i j x t) :
  ∃ t':BT k,hV t' (iW sp (g7 x i j)) (iH hd x (2 ^ j))∧(cn t→cn t'):=by
 obtain ⟨C,hC,rfl,hij⟩:=T
 obtain ⟨pre,post,e⟩:=hC.split
 refine ⟨C .ot,⟨?_,?_⟩,fun h=>hC.cn_swap h (by cases j <;> exact trivial) (by intro q;cases q)⟩
 ·have h1:=R.sp
  rw [e,nu] at h1
  rw [e]
  refine (yl h1).trans ?_
  rw [kF,dH,dH]
  have keep:∀ {l:List (Int×Int)},(∀ p∈l,p∈pre false++post false)→l.filter (fun p=>decide (p.1∉g7 x i j))=l:=by
   intro l hl
   rw [bS]
   intro p hp
   simp only [decide_eq_true_eq]
   intro hm
   obtain ⟨m,a1,a2,a3⟩:=kf.mp hm
   have b1:=hC.off (b':=true) (v:=.fr) e (hl p hp)
   have b2:=cr (C .ot) (b:=false) (a:=0) (p:=p) (by rw [e];simpa using hl p hp)
   have:=cy m;have:=gp a2
   lia
  rw [keep (l:=pre false) (fun p hp=>by simp [hp]),keep (l:=post false) (fun p hp=>by simp [hp])]
  have gone:(nh x j i).reverse.filter (fun p=>decide (p.1∉g7 x i j))=[]:=by
   rw [kU]
   intro p hp
   obtain ⟨m,a1,a2,a3⟩:=yN (tN.mp hp)
   simp only [decide_eq_true_eq,Classical.not_not]
   exact kf.mpr ⟨m,a1,a2,by rw [a3]⟩
  rw [gone];simp
 ·rw [e]
  have h1:hd.Perm (pre true++(x,2 ^ i)::post true):=by have:=R.hd;rw [e,nt hij] at this;simpa using this
  simpa using mU (u:=2 ^ j) R.khd h1
theorem jr {k:Nat} (t:BT k):∀ {a:Int},cn t→cI true a t=[]→t = .fr:=by
 induction t with
 |fr=>intros;rfl
 |ot=>intro a _ h;simp at h
 |nd l r ihl ihr =>
  intro a hc h
  rw [pcs_nd,List.append_eq_nil_iff] at h
  exact absurd ⟨ihl hc.2.1 h.1,ihr hc.2.2 h.2⟩ hc.1
theorem C5 {k:Nat} (t:BT k):∀ {t':BT k} {a:Int},cn t→cn t'→(∀ p,p∈cI true a t↔p∈cI true a t')→t=t':=by
 induction t with
 |fr =>
  intro t' a _ h' h
  have:cI true a t'=[]:=mh.mpr fun p hp=>by have:=(h p).mpr hp;simp at this
  exact (jr t' h' this).symm
 |ot =>
  intro t' a _ h' h
  exact (ji ((h (a,_)).mp (by simp))).symm
 |@nd k l r ihl ihr =>
  intro t' a hc h' h
  cases t' with
  |fr =>
   have:cI true a (.nd l r)=[]:=mh.mpr fun p hp=>by have:=(h p).mp hp;simp at this
   exact absurd (jr _ hc this) (by intro q;cases q)
  |ot=>exact absurd (ji ((h (a,_)).mpr (by simp))) (by intro q;cases q)
  |nd l' r' =>
   have hp:=cy k
   have el:l=l':=ihl hc.2.1 h'.2.1 (a:=a) fun p=>by
    have:=h p
    rw [pcs_nd,pcs_nd,ay,ay] at this
    constructor
    ·intro q
     rcases this.mp (.inl q) with z|z
     ·exact z
     ·have h1:=cr l q;have h2:=cr r' z;omega
    ·intro q
     rcases this.mpr (.inl q) with z|z
     ·exact z
     ·have h1:=cr l' q;have h2:=cr r z;omega
   have er:r=r':=ihr hc.2.2 h'.2.2 (a:=a+2 ^ k) fun p=>by
    have:=h p
    rw [pcs_nd,pcs_nd,ay,ay] at this
    constructor
    ·intro q
     rcases this.mp (.inr q) with z|z
     ·have h1:=cr r q;have h2:=cr l' z;omega
     ·exact z
    ·intro q
     rcases this.mpr (.inr q) with z|z
     ·have h1:=cr r' q;have h2:=cr l z;omega
     ·exact z
   rw [el,er]
theorem EN {k:Nat} (t:BT k):∀ {a:Int},cn t→(t = .fr∨(cI false a t).length≤k * (cI true a t).length):=by
 induction t with
 |fr=>intros;exact .inl rfl
 |ot=>intro a _;right;simp
 |@nd k l r ihl ihr =>
  intro a hc
  right
  rw [pcs_nd,pcs_nd,au,au]
  have one:∀ {j:Nat} {a:Int} {t:BT j},cn t→t ≠ .fr→1≤(cI true a t).length:=fun {j a t} h1 h2=>by
   cases q:cI true a t with
   |nil=>exact absurd (jr t h1 q) h2
   |cons _ _=>simp
  rcases ihl (a:=a) hc.2.1 with q|q
  ·subst q
   have hr:r ≠ .fr:=fun q=>hc.1 ⟨rfl,q⟩
   rcases ihr (a:=a+2 ^ k) hc.2.2 with q'|q'
   ·exact absurd q' hr
   ·have:=one (a:=a+2 ^ k) hc.2.2 hr
    simp only [pcs_fr_f,pcs_fr_t,bB,fR,vq]
    rw [Nat.add_mul];lia
  ·have h1:l ≠ .fr∨l = .fr:=by by_cases z:l = .fr <;> simp [z]
   rcases h1 with h1|h1
   ·have:=one (a:=a) hc.2.1 h1
    rcases ihr (a:=a+2 ^ k) hc.2.2 with q'|q'
    ·subst q'
     simp only [pcs_fr_f,pcs_fr_t,bB,fR,Nat.add_zero]
     rw [Nat.add_mul];lia
    ·rw [Nat.add_mul,Nat.mul_add];lia
   ·subst h1
    have hr:r ≠ .fr:=fun q=>hc.1 ⟨rfl,q⟩
    rcases ihr (a:=a+2 ^ k) hc.2.2 with q'|q'
    ·exact absurd q' hr
    ·have:=one (a:=a+2 ^ k) hc.2.2 hr
     simp only [pcs_fr_f,pcs_fr_t,bB,fR,vq]
     rw [Nat.add_mul];lia
theorem hV.len {k} {t:BT k} {sp hd} (R:hV t sp hd) (hc:cn t):sp.length≤k * hd.length+1:=by
 rw [R.sp.length_eq,R.hd.length_eq]
 rcases EN t (a:=0) hc with q|q
 ·subst q;simp
 ·(exact cX (by assumption))
theorem nR:∀ {l m:List Int},l.Perm m→l.Pairwise (·≤·)→m.Pairwise (·≤·)→l=m
 |[],m,h,_,_=>(List.nil_perm.mp h).symm
 |a::l,[],h,_,_=>by have:=h.length_eq;simp at this
 |a::l,b::m,h,h1,h2=>by
  have ab:a=b:=by
   have m1:a∈b::m:=h.mem_iff.mp (.head _)
   have m2:b∈a::l:=h.mem_iff.mpr (.head _)
   rcases aQ.mp m1 with q|q
   ·exact q
   ·rcases aQ.mp m2 with q'|q'
    ·exact q'.symm
    ·have:=(cR.mp h1).1 b q'
     have:=(cR.mp h2).1 a q
     lia
  subst ab
  rw [nR (h.cons_inv) (cR.mp h1).2 (cR.mp h2).2]
theorem jY {b:Bool} {k:Nat} (t:BT k) {a:Int}:((cI b a t).map (·.1)).Pairwise (·≤·):=by
 rw [cq]
 refine List.Pairwise.imp_of_mem ?_ (jH t (a:=a) (b:=b))
 intro p q hp hq h
 have:=cr t hp
 unfold Apart at h;lia
theorem pq {b:Bool} {k:Nat} {t:BT k} {d:List (Int×Int)} {ms:List Int} (hd:d.Perm (cI b 0 t)) (h1:ms.Perm (d.map (·.1))) (h2:ms.Pairwise (·≤·)):ms=(cI b 0 t).map (·.1):=
 nR (h1.trans (hd.map _)) h2 (jY t)
theorem hU {b:Bool} {k:Nat} {t:BT k} {d:List (Int×Int)} (hd:d.Perm (cI b 0 t)) {p:Int×Int} (hp:p∈cI b 0 t):du d p.1=some p.2:=
 (cH ((gK hd).mpr (mD t))).mpr (hd.mem_iff.mpr hp)
noncomputable def vA (sp:List (Int×Int)) (w:Int) (ks:List Int):Option Int→Prop
 |none=>∀ a∈ks,∀ s,du sp a=some s→s<w
 |some x=>x∈ks∧∃ s,du sp x=some s∧w≤s∧∀ a∈ks,∀ u,du sp a=some u→w≤u→s≤u∧(u=s→x≤a)
theorem vA.take {sp:List (Int×Int)} {w:Int} {ks:List Int} {f:Option Int} {a s:Int} (B:vA sp w ks f) (hs:du sp a=some s) (hw:w≤s) (hf:∀ x u,f=some x→du sp x=some u→s<u):vA sp w (ks++[a]) (some a):=by
 refine ⟨by simp,s,hs,hw,fun b hb u hu hwu=>?_⟩
 rcases ay.mp hb with hb|hb
 ·cases f with
  |none=>have:=B b hb u hu;lia
  |some x =>
   obtain ⟨_,s',h1,h2,h3⟩:=B
   have:=hf x s' rfl h1
   have:=(h3 b hb u hu hwu).1
   exact ⟨by lia,fun q=>by lia⟩
 ·rw [aC] at hb;subst hb
  rw [hs] at hu;cases hu
  exact ⟨ee _,fun ux=>ee _⟩
theorem vA.skip {sp:List (Int×Int)} {w:Int} {ks:List Int} {f:Option Int} {a s:Int} (B:vA sp w ks f) (hs:du sp a=some s) (ha:∀ b∈ks,b≤a) (hf:s<w∨∃ x u,f=some x∧du sp x=some u∧u≤s):vA sp w (ks++[a]) f:=by
 cases f with
 |none =>
  intro b hb u hu
  rcases ay.mp hb with hb|hb
  ·exact B b hb u hu
  ·rw [aC] at hb;subst hb
   rw [hs] at hu;cases hu
   rcases hf with q|⟨x,u,q,_⟩
   ·exact q
   ·cases q
 |some x =>
  obtain ⟨hx,s',h1,h2,h3⟩:=B
  refine ⟨by simp [hx],s',h1,h2,fun b hb u hu hwu=>?_⟩
  rcases ay.mp hb with hb|hb
  ·exact h3 b hb u hu hwu
  ·rw [aC] at hb;subst hb
   rw [hs] at hu;cases hu
   rcases hf with q|⟨x',u,q,e1,e2⟩
   ·lia
   ·cases q;rw [h1] at e1;cases e1
    exact ⟨e2,fun ux=>ha x hx⟩
theorem r7 {x:Int}:∀ {m:Nat},nh x m m=[]
 |0=>rfl
 |m+1=>by unfold nh;rw [if_neg (by lia)]
theorem r6 {x:Int} {m:Nat}:∀ {i:Nat},m<i→nh x i m=nh x i (m+1)++[(x+2 ^ m,2 ^ m)]
 |0,h=>by lia
 |i+1,h=>by
  unfold nh
  rw [if_pos (by (exact ii (by assumption)))]
  by_cases q:m=i
  ·subst q;rw [if_neg (by lia),r7];rfl
  ·rw [if_pos (by lia),r6 (show m<i by lia)];rfl
theorem vJ {x:Int} {j:Nat}:∀ {i:Nat},(nh x i j).length≤i
 |0=>by simp [nh]
 |i+1=>by
  unfold nh
  split
  ·have:=@vJ x j i;simp;assumption
  ·simp
theorem B1 {sp:List (Int×Int)} {x:Int} {i m:Nat} (hm:m<i) (hn:∀ e,e<i→∀ u,(x+2 ^ e,u)∉sp):iH (sp++nh x i (m+1)) (x+2 ^ m) (2 ^ m)=sp++nh x i m:=by
 rw [mV,ai,← r6 hm]
 intro u hu
 rcases ay.mp hu with h|h
 ·exact hn m hm u h
 ·obtain ⟨e,h1,h2,h3⟩:=yN h
  have:(2:Int) ^ m=2 ^ e:=by have:=congrArg (·.1) h3;simp only at this;lia
  have:=lx this
  lia
theorem sJ (m:Nat):(2:Int) ^ (m+1) / 2=2 ^ m:=by rw [dW];lia
theorem Cu {d:List (Int×Int)} (hk:gE d) {p q:Int×Int} (hp:p∈d) (hq:q∈d) (h:p.1=q.1):p=q:=by
 have h1:=(cH hk (k:=p.1) (v:=p.2)).mpr hp
 have h2:=(cH hk (k:=p.1) (v:=q.2)).mpr (by rw [h];exact hq)
 rw [h1] at h2
 exact Prod.ext h (by injection h2)
theorem qr {hs hd:List (Int×Int)} (h:hs.Perm hd) (hk:gE hd) {p:Int×Int} (hp:p∈hs):(hs.filter fun q=>!decide (q=p)).Perm (dS hd p.1):=by
 have e:(hs.filter fun q=>!decide (q=p))=dS hs p.1:=by
  unfold dS
  refine List.filter_congr fun q hq=>?_
  have:q=p↔q.1=p.1:=⟨fun e=>by rw [e],fun e=>Cu ((gK h).mpr hk) hq hp e⟩
  by_cases c:q=p
  ·simp [c]
  ·simp [c,mt this.mpr c]
 rw [e]
 exact nC h _
theorem zf {hs hd:List (Int×Int)} (h:hs.Perm hd) (hk:gE hd) {p:Int×Int} (hp:p∈hs) (u:Int):((hs.filter fun q=>!decide (q=p))++[(p.1,u)]).Perm (iH hd p.1 u):=by
 refine ((qr h hk hp).append_right _).trans ?_
 obtain ⟨pre,post,e⟩:=List.append_of_mem (h.mem_iff.mp hp)
 have e':hd.Perm (pre++(p.1,p.2)::post):=by rw [e]
 refine List.Perm.trans ((jR hk e').append_right _) ?_
 refine List.Perm.trans ?_ (mU (u:=u) hk e').symm
 rw [ai]
 exact bK _ (bA)
theorem tf {hd:List (Int×Int)} (hk:gE hd) {x v u:Int} (hx:(x,v)∈hd):(iH hd x u).length=hd.length:=by
 obtain ⟨pre,post,e⟩:=List.append_of_mem hx
 have e':hd.Perm (pre++(x,v)::post):=by rw [e]
 rw [(mU (u:=u) hk e').length_eq,e];simp
theorem kG {hd:List (Int×Int)} {x:Int}:(dS hd x).length≤hd.length:=fF _ _
theorem xi {x:Int} {i:Nat}:g7 x i i=[]:=by
 cases i with
 |zero=>rfl
 |succ m=>unfold g7;rw [if_neg (by lia)]
theorem xj {x:Int} {i e:Nat} (h:i≤e):g7 x i (e+1)=g7 x i e++[x+2 ^ e]:=by
 rw [g7,if_pos h]
theorem oZ {x:Int} {i:Nat}:∀ {m:Nat},(g7 x i m).length≤m
 |0=>aU _
 |m+1=>by
  unfold g7
  split
  ·rw [au];exact cW oZ
  ·exact dw _
theorem oY {x:Int} {i:Nat}:∀ {m:Nat},(g7 x i m).Nodup
 |0=>Bs
 |m+1=>by
  unfold g7
  split
  ·refine ij.mpr ⟨oY,dK _ _,fun a ha b hb q=>?_⟩
   obtain ⟨e,_,h2,h3⟩:=kf.mp ha
   have h4:=aC.mp hb
   have:=gp h2
   lia
  ·exact Bs
theorem ym {d:List (Int×Int)} {l:List Int} (h:gE d):gE (iW d l):=by
 rw [kF]
 exact List.Pairwise.sublist (List.filter_sublist.map _) h
theorem AM {d:List (Int×Int)} {l:List Int}:(iW d l).length≤d.length:=by
 rw [kF];exact fF _ _
theorem pg {l:List Int} (h:l.Nodup) {n:Nat} {p:Int} (hp:l[n]?=some p):p∉l.take n:=fun q=>by
 obtain ⟨j,hj,e⟩:=oj q
 obtain ⟨hn,e'⟩:=aF.mp hp
 rw [qF] at e
 rw [bh] at hj
 have:=(List.nodup_iff_pairwise_ne.mp h)
 exact (dp.mp this) j n (by lia) hn (by lia) (e.trans e'.symm)
theorem C2 {k:Nat} {t:BT k} {sp hd:List (Int×Int)} (R:hV t sp hd) {x:Int} {i j n:Nat} {p:Int} (hp:(g7 x i j)[n]?=some p) (hm:∀ m,i≤m→m<j→(x+2 ^ m,(2:Int) ^ m)∈cI false 0 t) :
  ∃ v,du (iW sp ((g7 x i j).take n)) p=some v:=by
 obtain ⟨m,h1,h2,rfl⟩:=kf.mp (aE hp)
 exact ⟨_,(cH (ym R.ksp)).mpr (AL.mpr ⟨R.sp.mem_iff.mpr (hm m h1 h2),pg oY hp⟩)⟩
theorem TG.all {k:Nat} {t:BT k} {sp hd:List (Int×Int)} (R:hV t sp hd) {x:Int} {i:Nat} (hx:(x,(2:Int) ^ i)∈hd):∀ {j:Nat},i≤j→x % 2 ^ j=0→(∀ m,i≤m→m<j→(x+2 ^ m,(2:Int) ^ m)∈cI false 0 t)→TG k i j x t:=by
 intro j hij hj hm
 have:∀ d,i+d≤j→TG k i (i+d) x t:=by
  intro d
  induction d with
  |zero=>intro _;exact TG.start R hx
  |succ d ih=>intro h;exact TG.step R (ih (by lia)) (show i+d<j by lia) hj (R.sp.mem_iff.mpr (hm (i+d) (by (exact ci _ _)) (by lia)))
 have:=this (j - i) (by lia)
 rwa [show i+(j - i)=j by lia] at this
theorem hV.grow {k:Nat} {t:BT k} {sp hd:List (Int×Int)} (R:hV t sp hd) {x:Int} {i j:Nat} (hx:(x,(2:Int) ^ i)∈hd) (hij:i≤j) (hj:x % 2 ^ j=0) (hm:∀ m,i≤m→m<j→(x+2 ^ m,(2:Int) ^ m)∈cI false 0 t) :
  ∃ t':BT k,hV t' (iW sp (g7 x i j)) (iH hd x (2 ^ j))∧(cn t→cn t'):=TG.done R (TG.all R hx hij hj hm)
noncomputable def nT (p q:Int×Int):Bool:=decide (p.1<q.1∨(p.1=q.1∧p.2<q.2))
theorem sk {b:Bool} {k:Nat} {t:BT k} {p:Int×Int} (h:p∈cI b 0 t):∃ i,i≤k∧p.2=2 ^ i∧p.1 % 2 ^ i=0∧0≤p.1∧p.1+p.2≤2 ^ k:=by
 obtain ⟨i,C,hC,_,hs⟩:=Cx.find (y:=p.1) (s:=p.2) h
 have al:=hC.al
 exact ⟨i,hC.le,hs,al.2.2,al.1,by rw [hs];exact al.2.1⟩
theorem Bk {l:List (Int×Int)} (h:l.Pairwise Apart) (hp:∀ p∈l,0<p.2):l.Pairwise fun p q=>nT q p=false:=by
 refine h.imp_of_mem fun {a b} ha hb hab=>?_
 have:=hp a ha
 unfold Apart at hab
 unfold nT
 simp only [decide_eq_false_iff_not]
 lia
theorem Eb {b:Bool} {k:Nat} {t:BT k} {a:Int}:(cI b a t).Pairwise fun p q=>nT q p=false:=Bk (jH t) fun ux h=>(cr t h).2.2
noncomputable def pe:{k:Nat}→Int→BT k→List (Int×Int)
 |k,a,.fr=>[(a,2 ^ k)]
 |k,a,.ot=>[(a,2 ^ k)]
 |k+1,a,.nd l r=>pe a l++pe (a+2 ^ k) r
noncomputable def Run:List (Int×Int)→Int→Int→Prop
 |[],a,b=>a=b
 |p::r,a,b=>p.1=a∧Run r (p.1+p.2) b
theorem Run.append {l m:List (Int×Int)}:∀ {a b c:Int},Run l a b→Run m b c→Run (l++m) a c:=by
 induction l with
 |nil=>intro a b c h1 h2;rw [show a=b from h1];exact h2
 |cons p r ih=>intro a b c h1 h2;exact ⟨h1.1,ih h1.2 h2⟩
@[simp] theorem pall_fr {k:Nat} {a:Int}:pe a (.fr:BT k)=[(a,2 ^ k)]:=by cases k <;> rfl
@[simp] theorem pall_ot {k:Nat} {a:Int}:pe a (.ot:BT k)=[(a,2 ^ k)]:=by cases k <;> rfl
theorem qZ {k:Nat} {a:Int} {l r:BT k}:pe a (.nd l r)=pe a l++pe (a+2 ^ k) r:=rfl
theorem y2 {k:Nat} (t:BT k):∀ {a:Int},Run (pe a t) a (a+2 ^ k):=by
 induction t with
 |fr=>intro a;rw [pall_fr];exact ⟨rfl,rfl⟩
 |ot=>intro a;rw [pall_ot];exact ⟨rfl,rfl⟩
 |@nd k l r ihl ihr =>
  intro a
  rw [qZ,dW,← Int.add_assoc]
  exact ihl.append ihr
theorem nv {k:Nat} (t:BT k):∀ {a:Int},(pe a t).Perm (cI true a t++cI false a t):=by
 induction t with
 |fr=>intro a;simp
 |ot=>intro a;simp
 |@nd k l r ihl ihr =>
  intro a
  rw [qZ,pcs_nd,pcs_nd]
  refine (ihl.append ihr).trans ?_
  rw [ai,ai]
  refine bK _ ?_
  rw [← ai,← ai]
  exact eV _ bA
theorem vP {k:Nat} {t:BT k} {a:Int} {p:Int×Int} (h:p∈pe a t):a≤p.1∧p.1+p.2≤a+2 ^ k∧0<p.2:=by
 rcases ay.mp ((nv t).mem_iff.mp h) with q|q <;> exact cr t q
theorem so {k:Nat} (t:BT k):∀ {a:Int},(pe a t).Pairwise Apart:=by
 induction t with
 |fr=>intro a;rw [pall_fr];exact dK _ _
 |ot=>intro a;rw [pall_ot];exact dK _ _
 |@nd k l r ihl ihr =>
  intro a
  rw [qZ,aA]
  refine ⟨ihl,ihr,fun p hp q hq=>?_⟩
  have h1:=vP hp
  have h2:=vP hq
  show p.1+p.2≤q.1
  lia
theorem nP {ms ps:List (Int×Int)} (h:ms.Perm ps) (hm:ms.Pairwise fun p q=>nT q p=false) (hp:ps.Pairwise fun p q=>nT q p=false):ms=ps:=by
 refine h.eq_of_pairwise (fun a b _ _ h1 h2=>?_) hm hp
 unfold nT at h1 h2
 simp only [decide_eq_false_iff_not] at h1 h2
 have e1:a.1=b.1:=by lia
 have e2:a.2=b.2:=by lia
 exact Prod.ext e1 e2
noncomputable def jj (c:Int) (p:Int×Int):Bool:=decide (p.1≤c∧c<p.1+p.2)
noncomputable def q7 (l:List (Int×Int)) (c:Int):Option Int:=(l.find? (jj c)).map (·.1)
noncomputable def tG (l:List (Int×Int)):Prop:=∀ p∈l,∀ q∈l,p=q∨Apart p q∨Apart q p
theorem sq {b:Bool} {k:Nat} (t:BT k) {a:Int}:tG (cI b a t):=fun p hp q hq=>by
 have h:=@jH b k t a
 rcases oj hp with ⟨i,hi,rfl⟩
 rcases oj hq with ⟨j,hj,rfl⟩
 rcases Nat.lt_trichotomy i j with r|r|r
 ·exact .inr (.inl (dp.mp h i j hi hj r))
 ·subst r;exact .inl rfl
 ·exact .inr (.inr (dp.mp h j i hj hi r))
theorem tG.perm {l m:List (Int×Int)} (h:tG l) (p:m.Perm l):tG m:=fun a ha b hb=>h a (p.mem_iff.mp ha) b (p.mem_iff.mp hb)
theorem kl {l:List (Int×Int)} (h:tG l) {c:Int} {p:Int×Int} (hp:p∈l) (ho:jj c p=true):q7 l c=some p.1:=by
 unfold q7
 cases e:l.find? (jj c) with
 |none=>rw [Fg] at e;exact absurd ho (e p hp)
 |some q =>
  have hq:=List.mem_of_find?_eq_some e
  have h2:=List.find?_some e
  unfold jj at ho h2
  simp only [decide_eq_true_eq] at ho h2
  rcases h p hp q hq with r|r|r
  ·rw [r];rfl
  ·unfold Apart at r;lia
  ·unfold Apart at r;lia
theorem lB {l:List (Int×Int)} {c:Int} (h:∀ p∈l,jj c p=false):q7 l c=none:=by
 unfold q7
 rw [Fg.mpr fun p hp=>by rw [h p hp];decide]
 rfl
theorem xw {l m:List (Int×Int)} (h:tG l) (p:m.Perm l) (c:Int):q7 m c=q7 l c:=by
 by_cases q:∃ a∈l,jj c a=true
 ·obtain ⟨a,ha,ho⟩:=q
  rw [kl h ha ho,kl (h.perm p) (p.mem_iff.mpr ha) ho]
 ·have q1:∀ a∈l,jj c a=false:=fun a ha=>by
   cases e:jj c a with
   |false=>rfl
   |true=>exact absurd ⟨a,ha,e⟩ q
  rw [lB q1,lB fun a ha=>q1 a (p.mem_iff.mp ha)]
theorem hV.srt {k} {t:BT k} {sp hd hs ms:List (Int×Int)} (R:hV t sp hd) (h1:hs.Perm hd) (h2:ms.Perm hs) (h3:ms.Pairwise fun p q=>nT q p=false):ms=cI true 0 t:=nP ((h2.trans h1).trans R.hd) h3 Eb
theorem lZ {x:Int} {i j:Nat} (h:x % 2 ^ j=0) (hij:i≤j):x % 2 ^ i=0:=eH (mi (lA hij) (bE h))
theorem pj {l m:List Int} (hl:l.Nodup) (hm:m.Nodup) (h:∀ a,a∈l↔a∈m):l.length=m.length:=((List.perm_ext_iff_of_nodup hl hm).mpr h).length_eq
noncomputable def fi (j:Nat) (l:List (Int×Int)):Int:=((l.filter fun p=>decide ((2:Int) ^ j≤p.2)).map fun p=>p.2 / 2 ^ j).sum
noncomputable def dG (j:Nat) (l:List (Int×Int)):List Int:=(l.filter fun p=>decide (p.2<(2:Int) ^ j)).map fun p=>p.1 / 2 ^ j
noncomputable def gw (l:List Int) (n:Nat):Prop:=∃ m:List Int,m.Nodup∧(∀ a,a∈m↔a∈l)∧m.length=n
theorem gw.uniq {l:List Int} {n m:Nat} (h:gw l n) (h':gw l m):n=m:=by
 obtain ⟨a,a1,a2,a3⟩:=h
 obtain ⟨b,b1,b2,b3⟩:=h'
 rw [← a3,← b3]
 exact pj a1 b1 fun x=>(a2 x).trans (b2 x).symm
theorem gw.append {l l':List Int} {n n':Nat} {c:Int} (h:gw l n) (h':gw l' n') (h1:∀ a∈l,a<c) (h2:∀ a∈l',c≤a):gw (l++l') (n+n'):=by
 obtain ⟨a,a1,a2,a3⟩:=h
 obtain ⟨b,b1,b2,b3⟩:=h'
 refine ⟨a++b,ij.mpr ⟨a1,b1,fun x hx y hy e=>?_⟩,fun x=>?_,by rw [au,a3,b3]⟩
 ·have:=h1 x ((a2 x).mp hx)
  have:=h2 y ((b2 y).mp hy)
  omega
 ·rw [ay,ay,a2,b2]
theorem gw.nil:gw [] 0:=⟨[],Bs,fun ux=>Iff.rfl,rfl⟩
theorem i3 {j:Nat} {l m:List (Int×Int)}:fi j (l++m)=fi j l+fi j m:=by unfold fi;rw [dH,bu,List.sum_append]
theorem i9 {j:Nat} {l m:List (Int×Int)}:dG j (l++m)=dG j l++dG j m:=by unfold dG;rw [dH,bu]
theorem qX {j k:Nat} (h:j≤k):(2:Int) ^ k / 2 ^ j=2 ^ (k - j):=by
 have hp:=cy j
 rw [show k=j+(k - j) by omega,Int.pow_add,f5 _ (by omega)]
 congr 1;omega
theorem kD {a x:Int} {j:Nat} (ha:a % 2 ^ j=0) (h1:a≤x) (h2:x<a+2 ^ j):x / 2 ^ j=a / 2 ^ j:=by
 have hp:=cy j
 obtain ⟨c,rfl⟩:=bE ha
 rw [f5 _ (by omega),show x=(x - 2 ^ j * c)+2 ^ j * c by omega,Int.add_mul_ediv_left _ _ (by omega),Int.ediv_eq_zero_of_lt (by omega) (by omega)]
 omega
theorem EK {a x:Int} {j:Nat} (ha:a % 2 ^ j=0) (h:x<a):x / 2 ^ j<a / 2 ^ j:=by
 have hp:=cy j
 rw [Int.ediv_lt_iff_lt_mul hp,oq (bE ha)]
 exact h
theorem El {a x:Int} {j:Nat} (ha:a % 2 ^ j=0) (h:a≤x):a / 2 ^ j≤x / 2 ^ j:=by
 have hp:=cy j
 rw [vz hp,oq (bE ha)]
 exact h
theorem AW {k:Nat} {t:BT k} {b:Bool} {p:Int×Int} (hp:p∈cI b 0 t) {j:Nat} (hj:p.2≤2 ^ j) (hjk:j≤k):∃ (C:BT j→BT k) (v:BT j) (y:Int),Cx k j y C∧t=C v∧y≤p.1∧p.1<y+2 ^ j:=by
 obtain ⟨i,C,hC,ht,hs⟩:=Cx.find (y:=p.1) (s:=p.2) hp
 rw [hs] at hj
 have hij:i≤j:=iE.mp hj
 clear hj hs
 have go:∀ {m:Nat},i≤m→m≤j→∃ (C:BT m→BT k) (v:BT m) (y:Int),Cx k m y C∧t=C v∧y≤p.1∧p.1<y+2 ^ m:=by
  intro m him
  induction him with
  |refl=>intro _;exact ⟨C,_,p.1,hC,ht,ee _,by have:=cy i;lia⟩
  |@step m him ih =>
   intro hmj
   obtain ⟨C,v,y,hC,ht,h1,h2⟩:=ih (by lia)
   have:=cy m
   have hsu:=dW m
   cases hC with
   |top=>lia
   |@left _ _ C r hC=>exact ⟨C,.nd v r,y,hC,ht,h1,by simp only [Dm];lia⟩
   |@right _ y C l hC=>exact ⟨C,.nd l v,y,hC,ht,by lia,by simp only [Dm];lia⟩
 exact go hij (aU j)
noncomputable def BL (b:Int):Int:=b+1 - 2 * (b % 2)
noncomputable def pJ (j:Nat) (l:List (Int×Int)):List Int:=(l.filter fun p=>decide (p.2≤(2:Int) ^ j)).map fun p=>p.1 / 2 ^ j
theorem gJ {j:Nat} {l:List (Int×Int)} {b:Int}:b∈pJ j l↔∃ p∈l,p.2≤2 ^ j∧p.1 / 2 ^ j=b:=by
 unfold pJ
 rw [bx]
 constructor
 ·rintro ⟨p,hp,e⟩
  obtain ⟨a,c⟩:=hZ.mp hp
  exact ⟨p,a,by simpa using c,e⟩
 ·rintro ⟨p,a,c,e⟩
  exact ⟨p,hZ.mpr ⟨a,by simpa using c⟩,e⟩
theorem kL {x:Int} {j:Nat} (h:x % 2 ^ (j+1)=0):BL (x / 2 ^ j)=(x+2 ^ j) / 2 ^ j∧BL ((x+2 ^ j) / 2 ^ j)=x / 2 ^ j:=by
 have hp:=cy j
 obtain ⟨q,rfl⟩:=bE h
 have e:(2:Int) ^ (j+1) * q=2 ^ j * (2 * q):=by rw [eW,Int.mul_assoc]
 rw [e,show (2:Int) ^ j * (2 * q)+2 ^ j=2 ^ j * (2 * q+1) by rw [Int.mul_add,Int.mul_one],f5 _ (by lia),f5 _ (by lia)]
 unfold BL
 constructor <;> lia
theorem s5 {k:Nat} {t:BT k} (hc:cn t) {j:Nat} (hj:j<k) {x:Int}:(x,(2:Int) ^ j)∈cI false 0 t↔(x % 2 ^ j=0∧0≤x∧x<2 ^ k∧x / 2 ^ j∉pJ j (cI true 0 t)∧BL (x / 2 ^ j)∈pJ j (cI true 0 t)):=by
 have hpj:=cy j
 have hsu:=dW j
 constructor
 ·intro hm
  obtain ⟨i,C,hC,ht,hs⟩:=Cx.find hm
  obtain rfl:=lx hs
  have al:=hC.al
  have no:x / 2 ^ j∉pJ j (cI true 0 t):=fun q=>by
   obtain ⟨p,hp,h1,h2⟩:=gJ.mp q
   have hx:x≤p.1∧p.1<x+2 ^ j:=by
    have e1:=lR p.1 (2 ^ j)
    have e2:=lR x (2 ^ j)
    have:=jB p.1 (show (2:Int) ^ j≠0 by lia)
    have:=fE p.1 hpj
    rw [h2] at e1
    rw [al.2.2] at e2
    lia
   have:=hC.in_hole (y:=p.1) (s:=p.2) (b:=true) (by rw [← ht];exact hp) hx.1 hx.2
   simp [l0] at this
  refine ⟨al.2.2,al.1,by lia,no,gJ.mpr ?_⟩
  have some_in:∀ {r:BT j} {y:Int},y % 2 ^ j=0→cn r→r ≠ .fr→∃ p∈cI true y r,p.2≤2 ^ j∧p.1 / 2 ^ j=y / 2 ^ j:=fun {r y} hy hr hne=>by
   cases e:cI true y r with
   |nil=>exact absurd (jr r hr e) hne
   |cons p ps =>
    have hp:p∈cI true y r:=by rw [e];exact .head _
    have hin:=cr r hp
    exact ⟨p,.head _,by lia,kD hy hin.1 (by lia)⟩
  cases hC with
  |top=>(exact absurd (by assumption) (ba _))
  |@left _ _ C r hC =>
   have alC:=hC.al
   have h4:=hC.cn_hole (ht▸hc)
   obtain ⟨p,hp,h1,h2⟩:=some_in (r:=r) (y:=x+2 ^ j) (by rw [gV];exact al.2.2) h4.2.2 (fun q=>h4.1 ⟨rfl,q⟩)
   exact ⟨p,by rw [ht];exact hC.has_hole (by rw [pcs_nd];exact cJ _ hp),h1,by rw [h2,(kL alC.2.2).1]⟩
  |@right _ y C l hC =>
   have alC:=hC.al
   have h4:=hC.cn_hole (ht▸hc)
   obtain ⟨p,hp,h1,h2⟩:=some_in (r:=l) (y:=y) (lZ alC.2.2 (fV j)) h4.2.1 (fun q=>h4.1 ⟨q,rfl⟩)
   exact ⟨p,by rw [ht];exact hC.has_hole (by rw [pcs_nd];exact df _ hp),h1,by rw [h2,(kL alC.2.2).2]⟩
 ·rintro ⟨h1,h2,h3,h4,h5⟩
  obtain ⟨p,hp,hps,hpb⟩:=gJ.mp h5
  obtain ⟨C,v,y,hC,ht,hy1,hy2⟩:=AW hp hps (b7 hj)
  have al:=hC.al
  have hyb:y / 2 ^ j=BL (x / 2 ^ j):=by rw [← hpb,kD al.2.2 hy1 hy2]
  have empty:∀ {r:BT j},cn r→(∀ q∈cI true x r,q∈cI true 0 t)→r = .fr:=fun {r} hr hin=>by
   refine jr r hr (a:=x) (mh.mpr fun q hq=>h4 (gJ.mpr ⟨q,hin q hq,?_,?_⟩))
   ·have:=cr r hq;lia
   ·have:=cr r hq;exact kD h1 this.1 (by lia)
  have inj:∀ {u:Int},u % 2 ^ j=0→u / 2 ^ j=x / 2 ^ j→u=x:=fun {u} hu e=>by
   have e1:=lR u (2 ^ j)
   have e2:=lR x (2 ^ j)
   rw [hu,e] at e1
   rw [h1] at e2
   lia
  have back:BL (BL (x / 2 ^ j))=x / 2 ^ j:=by unfold BL;lia
  cases hC with
  |top=>(exact absurd (by assumption) (ba _))
  |@left _ _ C r hC =>
   have alC:=hC.al
   have hx:y+2 ^ j=x:=inj (by rw [gV];exact al.2.2) (by rw [← (kL alC.2.2).1,hyb,back])
   have h6:=hC.cn_hole (ht▸hc)
   have hr:r = .fr:=empty h6.2.2 fun q hq=>by rw [ht];exact hC.has_hole (by rw [pcs_nd,hx];exact cJ _ hq)
   rw [ht]
   exact hC.has_hole (by rw [pcs_nd,hx,hr];exact cJ _ (by simp))
  |@right _ y C l hC =>
   have alC:=hC.al
   have hx:y=x:=inj (lZ alC.2.2 (fV j)) (by rw [← (kL alC.2.2).2,hyb,back])
   have h6:=hC.cn_hole (ht▸hc)
   subst hx
   have hr:l = .fr:=empty h6.2.1 fun q hq=>by rw [ht];exact hC.has_hole (by rw [pcs_nd];exact df _ hq)
   rw [ht]
   exact hC.has_hole (by rw [pcs_nd,hr];exact df _ (by simp))
theorem uj {j:Nat}:∀ {k:Nat} (t:BT k) {a:Int},j≤k→cn t→a % 2 ^ k=0 →
  ∃ n:Nat,gw (dG j (cI true a t)) n∧fi j (cI true a t)+n+fi j (cI false a t)=2 ^ (k - j):=by
 intro k t
 have one:∀ {k:Nat} {a:Int},j≤k→fi j [(a,(2:Int) ^ k)]=2 ^ (k - j)∧dG j [(a,(2:Int) ^ k)]=[]:=fun {k a} hj=>by
  have h1:=iF hj
  constructor
  ·unfold fi
   rw [cj,if_pos (by simpa using h1)]
   simp [qX hj]
  ·unfold dG
   rw [cj,if_neg (by simp;assumption)]
   rfl
 induction t with
 |@fr k =>
  intro a hj _ _
  refine ⟨0,by simpa [dG] using gw.nil,?_⟩
  rw [pcs_fr_t,pcs_fr_f,(one hj).1]
  simp [fi]
 |@ot k =>
  intro a hj _ _
  refine ⟨0,?_,?_⟩
  ·rw [pcs_ot_t,(one hj).2];exact gw.nil
  ·rw [pcs_ot_t,pcs_ot_f,(one hj).1]
   simp [fi]
 |@nd k l r ihl ihr =>
  intro a hj hc ha
  rcases dE k j with q|q
  ·obtain rfl:j=k+1:=by lia
   have hlt:=gp (ew k)
   have hpk:=cy k
   have sz:∀ b,∀ p∈cI b a (BT.nd l r),p.2<2 ^ (k+1):=fun b p hp=>by
    rw [pcs_nd,ay] at hp
    rcases hp with hp|hp
    ·have:=cr l hp;lia
    ·have:=cr r hp;lia
   have hb:∀ b,fi (k+1) (cI b a (BT.nd l r))=0:=fun b=>by
    unfold fi
    rw [kU.mpr fun p hp=>by have:=sz b p hp;simp;assumption]
    rfl
   have hne:cI true a (BT.nd l r)≠[]:=fun q=>by have:=jr _ hc q;cases this
   obtain ⟨p,ps,hps⟩:=List.exists_cons_of_ne_nil hne
   have hs:∀ x,x∈dG (k+1) (cI true a (BT.nd l r))↔x=a / 2 ^ (k+1):=fun x=>by
    unfold dG
    rw [bx]
    constructor
    ·rintro ⟨q,hq,rfl⟩
     have hq:=(hZ.mp hq).1
     have:=cr _ hq
     exact kD ha this.1 (by lia)
    ·rintro rfl
     have hp:p∈cI true a (BT.nd l r):=by rw [hps];exact .head _
     have:=cr _ hp
     exact ⟨p,hZ.mpr ⟨hp,by simpa using sz true p hp⟩,kD ha this.1 (by lia)⟩
   refine ⟨1,⟨[a / 2 ^ (k+1)],(by simp),fun x=>by rw [hs,aC],rfl⟩,?_⟩
   rw [hb,hb,vw];decide
  ·obtain ⟨n1,d1,i1⟩:=ihl q hc.2.1 (a:=a) (lZ ha (fV k))
   have ha':(a+2 ^ k) % 2 ^ k=0:=by rw [gV];exact lZ ha (fV k)
   obtain ⟨n2,d2,i2⟩:=ihr q hc.2.2 (a:=a+2 ^ k) ha'
   have e:(2:Int) ^ (k+1 - j)=2 ^ (k - j)+2 ^ (k - j):=by rw [show k+1 - j=(k - j)+1 by lia,dW]
   have hj':=lZ ha' q
   refine ⟨n1+n2,?_,?_⟩
   ·rw [pcs_nd,i9]
    refine d1.append (c:=(a+2 ^ k) / 2 ^ j) d2 (fun x hx=>?_) fun x hx=>?_
    ·obtain ⟨p,hp,rfl⟩:=bx.mp hx
     have:=cr l (hZ.mp hp).1
     exact EK hj' (by lia)
    ·obtain ⟨p,hp,rfl⟩:=bx.mp hx
     have:=cr r (hZ.mp hp).1
     exact El hj' (by lia)
   ·rw [pcs_nd,pcs_nd,i3,i3,e]
    lia
theorem rC {j:Nat} {l:List (Int×Int)} (h:∀ p∈l,0<p.2):0≤fi j l:=by
 unfold fi
 induction l with
 |nil=>exact ee _
 |cons p l ih =>
  have ih:=ih fun q hq=>h q (Bt _ hq)
  have hp:=h p (List.mem_cons_self ..)
  rw [cj]
  split
  ·rw [aM,f0]
   have:=Int.ediv_nonneg (gU hp) (gU (cy j))
   omega
  ·exact ih
theorem yv {j:Nat} {l:List (Int×Int)} (h:∀ p∈l,p.2<2 ^ j):fi j l=0:=by
 unfold fi
 rw [kU.mpr fun p hp=>by have:=h p hp;simp;assumption]
 rfl
theorem jt {j:Nat} {l m:List (Int×Int)} (h:l.Perm m):fi j l=fi j m:=by
 have:=(h.filter fun p=>decide ((2:Int) ^ j≤p.2)).map fun p=>p.2 / 2 ^ j
 unfold fi
 have key:∀ {a b:List Int},a.Perm b→a.sum=b.sum:=fun h=>by
  induction h with
  |nil=>rfl
  |cons x _ ih=>rw [f0,f0,ih]
  |swap x y l=>rw [f0,f0,f0,f0];lia
  |trans _ _ a b=>exact a.trans b
 exact key this
theorem jo {j n:Nat} {l m:List (Int×Int)} (h:l.Perm m) (d:gw (dG j l) n):gw (dG j m) n:=by
 obtain ⟨a,a1,a2,a3⟩:=d
 refine ⟨a,a1,fun x=>(a2 x).trans ?_,a3⟩
 unfold dG
 exact ((h.filter _).map _).mem_iff
theorem C1 {l l':List Int} {n n':Nat} (d:gw l n) (d':gw (l++l') n'):n≤n':=by
 obtain ⟨a,a1,a2,rfl⟩:=d
 obtain ⟨b,b1,b2,rfl⟩:=d'
 have:=pj (l:=a) (m:=b.filter fun x=>decide (x∈a)) a1 (b1.filter _) fun x=>by
  rw [hZ,decide_eq_true_eq]
  exact ⟨fun h=>⟨(b2 x).mpr (df _ ((a2 x).mp h)),h⟩,fun h=>h.2⟩
 rw [this]
 exact fF _ _
theorem sy {k j:Nat} {t t':BT k} {sp sp' hd gs:List (Int×Int)} (R:hV t sp hd) (hc:cn t) (R':hV t' sp' (hd++gs)) (hc':cn t') (hj:j≤k) {m:Nat} (d:gw (dG j hd) m):fi j gs≤2 ^ k / 2 ^ j - (fi j hd+m):=by
 obtain ⟨n',d',e'⟩:=uj (j:=j) t' (a:=0) hj hc' (by simp)
 rw [← jt R'.hd,i3] at e'
 have d':=jo R'.hd.symm d'
 rw [i9] at d'
 have h1:=C1 d d'
 have h2:=rC (j:=j) (l:=cI false 0 t') fun p hp=>(cr t' hp).2.2
 rw [qX hj]
 lia
theorem xA {k j:Nat} {t t':BT k} {sp sp' hd gs:List (Int×Int)} (R:hV t sp hd) (hc:cn t) (R':hV t' sp' (hd++gs)) (hc':cn t') (hj:j≤k) {m:Nat} (d:gw (dG j hd) m) (hg:∀ p∈gs,(2:Int) ^ j≤p.2) (hf:∀ p∈cI false 0 t',p.2<2 ^ j):fi j gs=2 ^ k / 2 ^ j - (fi j hd+m):=by
 obtain ⟨n',d',e'⟩:=uj (j:=j) t' (a:=0) hj hc' (by simp)
 rw [← jt R'.hd,i3,yv hf] at e'
 have d':=jo R'.hd.symm d'
 have e:dG j gs=[]:=by
  unfold dG
  rw [kU.mpr fun p hp=>by have:=hg p hp;simp;assumption]
  rfl
 rw [i9,e,cA] at d'
 have:=gw.uniq d d'
 subst this
 rw [qX hj]
 lia
theorem B' {c:Int}:∀ {l:List (Int×Int)} {a b:Int},Run l a b→a≤c→c<b→∃ p∈l,p.1≤c∧c<p.1+p.2:=by
 intro l9
 induction l9 with
 |nil =>
  rintro a b h h1 h2
  have:a=b:=h;omega
 |cons p l ih9 =>
  rintro a b h h1 h2
  obtain ⟨e,h⟩:=h
  rcases Int.lt_or_le c (p.1+p.2) with q|q
  ·exact ⟨p,.head _,by omega,q⟩
  ·obtain ⟨r,hr,h3⟩:=ih9 h (by assumption) h2
   exact ⟨r,.tail _ hr,h3⟩
theorem xm {k:Nat} {t:BT k}:(cI true 0 t++cI false 0 t).Pairwise fun p q=>Apart p q∨Apart q p:=
 ((so t (a:=0)).imp fun h=>Or.inl h).perm (nv t) fun h=>h.symm
theorem B2 {k:Nat} {t:BT k} (hc:cn t) {B x:Int} {f i:Nat} (hB0:0≤B) (hBf:B % 2 ^ f=0) (hfk:f≤k) (h1:∀ p∈cI true 0 t,p.1+p.2≤B) (h2:∀ c,0≤c→c<B→∃ p∈cI true 0 t,p.1≤c∧c<p.1+p.2)
  (hx:(x,(2:Int) ^ i)∈cI false 0 t) (hmin:∀ p∈cI false 0 t,2 ^ f≤p.2→(2:Int) ^ i≤p.2):x=B:=by
 have ap:∀ p∈cI true 0 t,∀ q∈cI false 0 t,Apart p q∨Apart q p:=(aA.mp (xm (t:=t))).2.2
 have ap':∀ p∈cI false 0 t,∀ q∈cI false 0 t,p=q∨Apart p q∨Apart q p:=sq t
 have ge:∀ q∈cI false 0 t,B≤q.1:=fun q hq=>by
  rcases Int.lt_or_le q.1 B with w|w
  ·have hq':=cr t hq
   obtain ⟨p,hp,h3,h4⟩:=h2 q.1 (by lia) w
   have:=ap p hp q hq
   unfold Apart at this
   lia
  ·exact w
 have hx':=cr t hx
 simp only at hx'
 have hxB:=ge _ hx
 simp only at hxB
 rcases Int.lt_or_le B x with w|w
 ·exfalso
  obtain ⟨q,hq,h3,h4⟩:=B' (y2 t (a:=0)) (c:=B) hB0 (by lia)
  have hqf:q∈cI false 0 t:=by
   rcases ay.mp ((nv t).mem_iff.mp hq) with u|u
   ·have:=h1 q u;lia
   ·exact u
  have hqB:=ge q hqf
  have e1:q.1=B:=by lia
  obtain ⟨e,he,e2,_⟩:=sk hqf
  obtain ⟨y,z⟩:=q
  simp only at e1 e2 h3 h4
  subst e1 e2
  have hfe:f≤e:=by
   rcases dE e f with u|u
   ·exfalso
    obtain ⟨_,_,_,_,h5⟩:=(s5 hc (show e<k by (exact bO (by assumption) (by assumption)))).mp hqf
    obtain ⟨p,hp,p1,p2⟩:=gJ.mp h5
    have hp':=cr t hp
    have hpB:=h1 p hp
    have ev:=(kL (x:=y) (j:=e) (lZ hBf u)).1
    rw [ev] at p2
    have:=Int.le_of_eq p2.symm
    have h6:=(vz (cy e)).mp this
    have h7:(y+2 ^ e) / 2 ^ e * 2 ^ e=y+2 ^ e:=oq (bE (by rw [gV];exact lZ hBf (b7 u)))
    have:=cy e
    lia
   ·exact u
  have hie:=iE.mp (hmin _ hqf (iF hfe))
  have hsz:=iF hie
  have hapx:y+2 ^ e≤x:=by
   have:=ap' _ hqf _ hx
   unfold Apart at this
   simp only [Prod.mk.injEq] at this
   have:=cy i
   lia
  have hik:i<k:=by
   rcases dE i k with u|u
   ·exact u
   ·have:=iF u;lia
  obtain ⟨hxm,_,_,_,h5⟩:=(s5 hc hik).mp hx
  obtain ⟨p,hp,p1,p2⟩:=gJ.mp h5
  have hp':=cr t hp
  have hpB:=h1 p hp
  have tw:x / 2 ^ i - 1≤BL (x / 2 ^ i):=by unfold BL;lia
  rw [← p2] at tw
  have h6:=(vz (cy i)).mp tw
  have h7:x / 2 ^ i * 2 ^ i=x:=oq (bE hxm)
  rw [Int.sub_mul,h7,Int.one_mul] at h6
  lia
 ·lia
open PySem PySem.W PyProof.Rows PySem.Calls
section
variable {cx:CX} {σ σ':AS} {s:az}
theorem ei.grow {h h':Heap} {env:Env} {x:Str} {v:Value} (k:∀ b o,h.get? b=some o→h'.get? b=some o) (l:ei h env x v):ei h' env x v:=by
 unfold ei at *
 split at l
 ·obtain ⟨m,a,b⟩:=l;exact ⟨m,a.keeps k,b⟩
 ·obtain ⟨c,o,a,b,d⟩:=l;exact ⟨c,o,a,k _ _ b,d⟩
 ·obtain ⟨c,o,a,b,d⟩:=l;exact ⟨c,o,a,k _ _ b,d⟩
 ·exact l
theorem R.grow {h':Heap} {tk:Nat} (r:R af w cx σ s) (k:∀ b o,s.heap.get? b=some o→h'.get? b=some o):R af w cx σ { s with heap:=h',toks:=tk } where
 stay:=fun b o e=>k b o (r.stay b o e)
 ff:=r.ff.of_keeps fun b o e ux=>⟨o,k b o e,rfl⟩
 ns:=let ⟨m,a⟩:=r.ns;⟨m,a.keeps k⟩
 loc:=fun x v e=>let ⟨u,a,b⟩:=r.loc x v e;⟨u,a.grow k,b.mono (VM.of_keeps k)⟩
 pr:=fun b o e=>let ⟨a,c⟩:=r.pr b o e;⟨k _ _ a,c⟩
 pn:=fun b m e=>let ⟨a,c⟩:=r.pn b m e;⟨a.keeps k,c⟩
 ob:=fun a ao e=>let ⟨p,q⟩:=r.ob a ao e;⟨p.at (VM.of_keeps k) fun o=>k a o,q⟩
 own:=r.own
 cel:=fun x c e=>let ⟨p,⟨o,v,q1,q2⟩,q3⟩:=r.cel x c e;⟨p,⟨o,v,k _ _ q1,q2⟩,q3⟩
 oth:=r.oth
 gens:=r.gens
 drawn:=r.drawn
 os:=r.os
theorem R.tok {tk:Nat} (r:R af w cx σ s):R af w cx σ { s with toks:=tk }:=r.grow (h':=s.heap) fun ux ux e=>e
theorem R.le (r:R af w cx σ s) (l:σ'.Le σ):R af w cx σ' s:=
 { r with loc:=fun x v e=>r.loc x v (l.1 x v e),ob:=fun a ao e=>r.ob a ao (l.2 a ao e) }
theorem jI {h:Heap} {a:Addr} {m:Str→Option Value} (n:h.Ns a m):∃ o es ep,h.get? a=some o∧o.data = .dict es ep:=let ⟨o,es,ep,a,b,_⟩:=n;⟨o,es,ep,a,b⟩
theorem R.ownSet {h':Heap} {tk:Nat} {a:Addr} {o₀ o₁:Obj} (r:R af w cx σ s) (ha:cx.own a) (hs:Heap.SameBut a s.heap h') (h0:s.heap.get? a=some o₀) (h1:h'.get? a=some o₁)
  (n0:∀ xs n,o₀.data ≠ .seq xs n) (nf:(∀ vs,o₀.data ≠ .fields vs)→∀ vs,o₁.data ≠ .fields vs) (hns:∃ m,h'.Ns cx.env.locals m) (hcel:∀ x c,cx.env.cells.lookup x=some c→∃ o v,h'.get? c=some o∧o.data = .cell v)
  (hloc:∀ x v,σ'.loc x=some v→∃ u,ei h' cx.env x u∧VR h' v u) (hhp:σ'.hp=σ.hp):R af w cx σ' { s with heap:=h',toks:=tk }∧VM s.heap h':=by
 have keep:∀ b o,b≠a→s.heap.get? b=some o→h'.get? b=some o:=fun b o n e=>(hs.2 b n).trans e
 have vm:VM s.heap h':=fun b o xs n e ux d=>⟨o.slots,keep b o (fun q=>by subst q;rw [h0] at e;cases e;exact n0 _ _ d) e⟩
 have fff:∀ l,s.heap.FunFrames cx.base l→h'.FunFrames cx.base l:=by
  intro l
  induction l with
  |nil=>exact fun ux=>trivial
  |cons e l ih =>
   rintro ⟨hk,⟨L,o,hf,hn,ho,hd⟩,hr⟩
   refine ⟨hk,?_,ih hr⟩
   by_cases q:L=a
   ·subst q;rw [h0] at ho;cases ho;exact ⟨L,o₁,hf,hn,h1,nf hd⟩
   ·exact ⟨L,o,hf,hn,keep L o q ho,hd⟩
 refine ⟨⟨fun b o e=>?_,fff _ r.ff,hns,hloc,fun b o e=>?_,fun b m e=>?_,fun b ao e=>?_,r.own,fun x c e=>?_,r.oth,r.gens,r.drawn,r.os⟩,vm⟩
 ·refine keep b o (fun q=>?_) (r.stay b o e)
  subst q;rw [(r.own b ha).1] at e;cases e
 ·obtain ⟨e',f⟩:=r.pr b o e
  exact ⟨keep b _ (fun q=>by subst q;exact (r.own b ha).2.1 o e) e',f⟩
 ·obtain ⟨⟨o,es,ep,e1,e2⟩,f⟩:=r.pn b m e
  exact ⟨⟨o,es,ep,keep b o (fun q=>by subst q;exact (r.own b ha).2.2 m e) e1,e2⟩,f⟩
 ·rw [hhp] at e
  obtain ⟨p,q1,q2,q3,q4⟩:=r.ob b ao e
  exact ⟨p.at vm fun o e'=>keep b o (fun q=>by subst q;exact q3 ha) e',q1,q2,q3,q4⟩
 ·obtain ⟨p,_,q3⟩:=r.cel x c e
  exact ⟨p,hcel x c e,q3⟩
theorem R.storeL {h':Heap} {tk:Nat} {x:Str} {v:AV} {u:Value} {m:Str→Option Value} (r:R af w cx σ s) (hk:cx.env.kindOf x=some .local) (hn:s.heap.Ns cx.env.locals m) (hv:VR s.heap v u)
  (hn':h'.Ns cx.env.locals (fun y=>if y=x then some u else m y)) (hs:Heap.SameBut cx.env.locals s.heap h'):R af w cx (σ.set x v) { s with heap:=h',toks:=tk }∧VM s.heap h':=by
 obtain ⟨o₀,es,ep,h0,d0⟩:=jI hn
 obtain ⟨o₁,es₁,ep₁,h1,d1⟩:=jI hn'
 have vm:VM s.heap h':=fun b o xs n e ux d=>⟨o.slots,(hs.2 b (fun q=>by subst q;rw [h0] at e;cases e;rw [d0] at d;cases d)).trans e⟩
 refine r.ownSet (.inl rfl) hs h0 h1 (by intro xs n;rw [d0];simp) (by intro _ vs;rw [d1];simp) ⟨_,hn'⟩ (fun y c e=>?_) (fun y a e=>?_) rfl
 ·obtain ⟨p,⟨o,v',q1,q2⟩,_⟩:=r.cel y c e
  exact ⟨o,v',(hs.2 c p).trans q1,q2⟩
 ·unfold AS.set at e
  dsimp only at e
  split at e
  ·rename_i q;subst q;cases e
   exact ⟨u,by unfold ei;rw [hk];exact ⟨_,hn',by simp⟩,hv.mono vm⟩
  ·rename_i q
   obtain ⟨u',l,b⟩:=r.loc y a e
   refine ⟨u',?_,b.mono vm⟩
   unfold ei at l ⊢
   split at l
   ·obtain ⟨m',a1,a2⟩:=l
    have:m'=m:=by
     obtain ⟨o1,e1,p1,f1,f2,f3,f4⟩:=a1
     obtain ⟨o2,e2,p2,g1,g2,g3,g4⟩:=hn
     rw [f1] at g1;cases g1;rw [f2] at g2;cases g2
     funext z;rw [← f4 z,← g4 z]
    exact ⟨_,hn',by rw [if_neg q,← this];exact a2⟩
   ·obtain ⟨c,o,a1,a2,a3⟩:=l
    exact ⟨c,o,a1,(hs.2 c (r.cel y c a1).1).trans a2,a3⟩
   ·obtain ⟨c,o,a1,a2,a3⟩:=l
    exact ⟨c,o,a1,(hs.2 c (r.cel y c a1).1).trans a2,a3⟩
   ·exact l
theorem dB {h:Heap} {a:Addr} {m:Str→Option Value} (x:h.Ns a m):∃ o,h.get? a=some o∧∀ vs,o.data ≠ .fields vs:=by
 obtain ⟨o,es,ep,a1,a2,_⟩:=x
 exact ⟨o,a1,by intro vs q;rw [a2] at q;cases q⟩
theorem R.upd2 {h':Heap} {tk:Nat} {a:Addr} {ao ao':AO} (r:R af w cx σ s) (ha:σ.hp a=some ao) (hro:ao.isRo=false) (keep:∀ b o,b≠a→b≠cx.env.locals→s.heap.get? b=some o→h'.get? b=some o)
  (hns:∀ m,s.heap.Ns cx.env.locals m→h'.Ns cx.env.locals m) (ho:VM s.heap h'→OR af w h' a ao'):R af w cx (σ.put a ao') { s with heap:=h',toks:=tk }∧VM s.heap h':=by
 obtain ⟨p,q1,q2,q3,q4⟩:=r.ob a ao ha
 replace q1:=q1 hro
 obtain ⟨o₀,h0,n0⟩:=p.there
 obtain ⟨m₀,hm₀⟩:=r.ns
 obtain ⟨oL,eL,pL,gL,dL⟩:=jI hm₀
 have vm:VM s.heap h':=fun b o xs n e c d=>⟨o.slots,keep b o (fun q=>by subst q;rw [h0] at e;cases e;exact n0 xs n c d) (fun q=>by subst q;rw [gL] at e;cases e;rw [dL] at d;cases d) e⟩
 have ho:=ho vm
 have ownL:cx.own cx.env.locals:=.inl rfl
 obtain ⟨w1,w2,w3⟩:=r.own _ ownL
 have ownNe:∀ b,cx.own b→b≠a:=fun b hb q=>by subst q;exact q3 hb
 refine ⟨⟨fun b o e=>?_,?_,⟨m₀,hns _ hm₀⟩,fun x v e=>?_,fun b o e=>?_,fun b m e=>?_,fun b bo e=>?_,r.own,fun x c e=>?_,r.oth,r.gens,r.drawn,r.os⟩,vm⟩
 ·exact keep b o (fun q=>by subst q;rw [q1] at e;cases e) (fun q=>by subst q;rw [w1] at e;cases e) (r.stay b o e)
 ·have:∀ l,(∀ e∈l,e.frame≠some a)→s.heap.FunFrames cx.base l→h'.FunFrames cx.base l:=by
   intro l
   induction l with
   |nil=>exact fun ux ux=>trivial
   |cons e l ih =>
    rintro hne ⟨hk,⟨L,o,hf,hn,ho,hd⟩,hr⟩
    refine ⟨hk,?_,ih (fun e he=>hne e (.tail _ he)) hr⟩
    by_cases hL:L=cx.env.locals
    ·subst hL
     obtain ⟨o',g1,g2⟩:=dB (hns _ hm₀)
     exact ⟨_,o',hf,hn,g1,g2⟩
    ·exact ⟨L,o,hf,hn,keep L o (fun q=>hne e (.head _) (by rw [hf,q])) hL ho,hd⟩
  exact this _ q4 r.ff
 ·obtain ⟨u,l,b⟩:=r.loc x v e
  refine ⟨u,?_,b.mono vm⟩
  unfold ei at l ⊢
  split at l
  ·obtain ⟨m,a1,a2⟩:=l;exact ⟨m,hns m a1,a2⟩
  ·obtain ⟨c,o,a1,a2,a3⟩:=l
   exact ⟨c,o,a1,keep c o (ownNe c (.inr ⟨x,a1⟩)) (r.cel x c a1).1 a2,a3⟩
  ·obtain ⟨c,o,a1,a2,a3⟩:=l
   exact ⟨c,o,a1,keep c o (ownNe c (.inr ⟨x,a1⟩)) (r.cel x c a1).1 a2,a3⟩
  ·exact l
 ·obtain ⟨e',f⟩:=r.pr b o e
  exact ⟨keep b _ (fun q=>by subst q;exact q2 o e) (fun q=>by subst q;exact w2 o e) e',f⟩
 ·obtain ⟨⟨o,es,ep,e1,e2⟩,f⟩:=r.pn b m e
  refine ⟨⟨o,es,ep,keep b o (fun q=>?_) (fun q=>by subst q;exact w3 m e) e1,e2⟩,f⟩
  subst q
  obtain ⟨en,he,hf⟩:=bP.mp f
  exact q4 en he hf
 ·unfold AS.put at e
  dsimp only at e
  split at e
  ·rename_i q;subst q;cases e;exact ⟨ho,fun ux=>q1,q2,q3,q4⟩
  ·rename_i q
   obtain ⟨p',q'⟩:=r.ob b bo e
   exact ⟨p'.at vm fun o e'=>keep b o q (fun q=>by subst q;exact q'.2.2.1 ownL) e',q'⟩
 ·obtain ⟨p',⟨o,v,c1,c2⟩,c3⟩:=r.cel x c e
  exact ⟨p',⟨o,v,keep c o (ownNe c (.inr ⟨x,e⟩)) p' c1,c2⟩,c3⟩
theorem R.upd {h':Heap} {tk:Nat} {a:Addr} {ao ao':AO} (r:R af w cx σ s) (ha:σ.hp a=some ao) (hro:ao.isRo=false) (keep:∀ b o,b≠a→s.heap.get? b=some o→h'.get? b=some o) (ho:VM s.heap h'→OR af w h' a ao') :
  R af w cx (σ.put a ao') { s with heap:=h',toks:=tk }∧VM s.heap h':=
 r.upd2 ha hro (fun b o hb ux e=>keep b o hb e) (fun m ⟨o,es,ep,e1,e2⟩=>⟨o,es,ep,keep _ o (fun q=>(r.ob a ao ha).2.2.2.1 (.inl q.symm)) e1,e2⟩) ho
theorem R.new {h':Heap} {tk:Nat} {a:Addr} {ao:AO} (r:R af w cx σ s) (hn:s.heap.get? a=none) (keep:∀ b o,s.heap.get? b=some o→h'.get? b=some o) (ho:OR af w h' a ao) :
  R af w cx (σ.put a ao) { s with heap:=h',toks:=tk }:=by
 have g:=r.grow (tk:=tk) keep
 have fresh:∀ b o,s.heap.get? b=some o→b≠a:=fun b o e q=>by subst q;rw [hn] at e;cases e
 refine { g with ob:=fun b bo e=>?_ }
 unfold AS.put at e
 dsimp only at e
 split at e
 ·rename_i q;subst q;cases e
  refine ⟨ho,fun _=>?_,fun o e=>?_,fun hb=>?_,fun e he hf=>?_⟩
  ·cases q:cx.base.get? b with
   |none=>rfl
   |some o=>exact absurd rfl (fresh _ _ (r.stay b o q))
  ·exact absurd rfl (fresh _ _ (r.pr b o e).1)
  ·rcases hb with q|⟨x,q⟩
   ·obtain ⟨m,o,es,ep,e1,_⟩:=r.ns
    exact fresh _ _ e1 q.symm
   ·obtain ⟨_,⟨o,v,c1,_⟩,_⟩:=r.cel x b q
    exact absurd rfl (fresh _ _ c1)
  ·obtain ⟨_,o,h1,_⟩:=r.ff.mem (bP.mpr ⟨e,he,hf⟩)
   exact absurd rfl (fresh _ _ h1)
 ·exact g.ob b bo e
end
section
variable {K:Frag} {cx:CX} {sc:Scope} {n:Nat} {σ:AS}
variable {Q:AV→AS→Prop} {QB:Bool→AS→Prop} {QF:AF→AS→Prop} {E:Value→AS→Prop} {pos:Pos}
theorem j8 {α β:Type} {rel:Heap→β→α→Prop} {s:az} {tk:Nat} {b:β} {v:α} {Q:β→AS→Prop} (r:R af w cx σ s) (hv:rel s.heap b v) (h:Q b σ):dU af w rel cx s Q v { s with toks:=tk }:=
 ⟨b,σ,r.tok,hv,VM.refl _,h⟩
theorem dT {α β:Type} {rel:Heap→β→α→Prop} {s:az} {b:β} {v:α} {Q:β→AS→Prop} (r:R af w cx σ s) (hv:rel s.heap b v) (h:Q b σ):dU af w rel cx s Q v s:=
 ⟨b,σ,r,hv,VM.refl _,h⟩
theorem cQ {h:Heap} {i:Int} {t:Tok}:VR h (.int i) (.int i t):=⟨t,rfl⟩
theorem uh {h:Heap} {x:Str} {t:Tok}:VR h (.str x) (.str x t):=⟨t,rfl⟩
theorem dk {h:Heap} {b:Bool}:VR h (.bool b) (.bool b):=rfl
theorem jC {h:Heap}:VR h .none .none:=rfl
theorem di {h:Heap} {a:Addr}:VR h (.ref a) (.ref a):=rfl
theorem bf {i:Int} {k:Nat} (h:Q (.int i) σ):bZ af w cx (.Constant (.int i) k pos) σ Q E:=fun s r=>wpAny_Constant_int (j8 r cQ h)
theorem jO {k:Nat} (h:Q .none σ):bZ af w cx (.Constant .none k pos) σ Q E:=fun s r=>aB (dT r jC h)
theorem jP {b:Bool} {k:Nat} (h:Q (.bool b) σ):bZ af w cx (.Constant (.bool b) k pos) σ Q E:=fun s r=>aB (dT r dk h)
theorem dR {x:Str} {k:Nat} (h:Q (.str x) σ):bZ af w cx (.Constant (.str x) k pos) σ Q E:=fun s r=>wpAny_mkText (j8 r uh h)
theorem CV (ok:Ok af K cx sc n) {x:Str} {v:AV} (hv:σ.loc x=some v) (h:Q v σ) (hd:(x == ("__debug__":Str))=false:=by decide) (hc:(x == ("__classdict__":Str))=false:=by decide) :
  bZ af w cx (.Name x pos) σ Q E:=fun s r=>by
 have hk:cx.env.scope.kind = .function:=by rw [ok.scope];exact ok.kind
 obtain ⟨u,l,hu⟩:=r.loc x v hv
 refine wpAny_Name ?_ hd
 unfold ei at l
 split at l
 ·rename_i hx;obtain ⟨m,a,b⟩:=l;exact wpAny_loadName_local hk hx a b (dT r hu h)
 ·rename_i hx;obtain ⟨c,o,a,b,d⟩:=l;exact wpAny_loadName_cell hk hx a ⟨o,b,d⟩ (dT r hu h)
 ·rename_i hx;obtain ⟨c,o,a,b,d⟩:=l;exact wpAny_loadName_free hk hx a ⟨o,b,d⟩ (dT r hu h) hc
 ·exact l.elim
theorem mR (ok:Ok af K cx sc n) {x:Str} {v:AV} {u:Value} (hx:sc.names.lookup x=some .globalImplicit) (e:nsIn K bk x=some (some u)) (hv:∀ h:Heap,VR h v u) (h:Q v σ) (hd:(x == ("__debug__":Str))=false:=by decide) :
  bZ af w cx (.Name x pos) σ Q E:=fun s r=>by
 have hk:cx.env.scope.kind = .function:=by rw [ok.scope];exact ok.kind
 obtain ⟨mg,hg⟩:=ok.glo.g
 exact Name_function_global hk (by unfold tR;rw [ok.scope];exact hx) (loadGlobal_global (by rw [ok.glob];exact hg.keeps r.stay) (mg_of ok.glo.KX hg e) (dT r (hv _) h)) hd
theorem EI {l rr:Expr} {op:Operator} (h:bZ af w cx l σ (fun a σ₁=>bZ af w cx rr σ₁ (fun b σ₂=>de af w cx (kM op) a b σ₂ Q E) E) E) :
  bZ af w cx (.BinOp l op rr pos) σ Q E:=fun s r=>by
 refine wpAny_BinOp (ak (h s r) (fun va s₁ zz=>zz.use fun a σ₁ r₁ v₁ m₁ q₁=>ak (q₁ s₁ r₁) (fun vb s₂ zz=>zz.use fun b σ₂ r₂ v₂ m₂ q₂=>?_) fun ux ux e=>e.mono m₁) fun ux ux e=>e)
 refine ak (q₂ s₂ va vb r₂ (v₁.mono m₂) v₂) (fun v s₃ zz=>zz.use fun c σ₃ r₃ v₃ m₃ q₃=>⟨c,σ₃,r₃,v₃,(m₁.trans m₂).trans m₃,q₃⟩) fun ux ux e=>e.mono (m₁.trans m₂)
theorem eI {a b:Int} (h:Q (.int (a+b)) σ):de af w cx (kM .Add) (.int a) (.int b) σ Q E:=by
 rintro s _ _ r ⟨t,rfl⟩ ⟨u,rfl⟩;exact PyProof.Rows.add_int (j8 r cQ h)
theorem ja {a b:Int} (h:Q (.int (a - b)) σ):de af w cx (kM .Sub) (.int a) (.int b) σ Q E:=by
 rintro s _ _ r ⟨t,rfl⟩ ⟨u,rfl⟩;exact PyProof.Rows.sub_int (j8 r cQ h)
theorem Eg {a b:Int} (hm:IntMulOk a b) (h:Q (.int (a * b)) σ):de af w cx (kM .Mult) (.int a) (.int b) σ Q E:=by
 rintro s _ _ r ⟨t,rfl⟩ ⟨u,rfl⟩;exact PyProof.Rows.mul_int (j8 r cQ h) hm
theorem eq {a b:Int} (hb:0<b) (h:Q (.int (a % b)) σ):de af w cx (kM .Mod) (.int a) (.int b) σ Q E:=by
 rintro s _ _ r ⟨t,rfl⟩ ⟨u,rfl⟩
 refine PyProof.Rows.mod_int (by lia) (j8 (b:=AV.int _) r cQ ?_)
 rw [Int.fmod_eq_emod_of_nonneg _ (by (exact gU (by assumption)))];exact h
theorem Eh (ok:Ok af K cx sc n) {a b:Int} (hb:0<b) (h:Q (.int (a / b)) σ):de af w cx (kM .FloorDiv) (.int a) (.int b) σ Q E:=by
 rintro s _ _ r ⟨t,rfl⟩ ⟨u,rfl⟩
 refine PyProof.Rows.floordiv_int (by lia) (j8 (b:=AV.int _) r cQ ?_) (.inr (PylongRoom.of (ok.glo.nolimit.keeps r.stay) (by have:=ok.depth;unfold Builtin.pylongFrames;lia)
  (SeerAt.of (ok.glo.seer.keeps r.stay) ok.glo.tree ok.fr ok.fgen ok.fco ok.fbi ok.fglob)))
 rw [Int.fdiv_eq_ediv_of_nonneg _ (by (exact gU (by assumption)))];exact h
theorem Ed {a:Int} {k:Int} (hn:0≤k) (hsz:(Builtin.Int.intBits a:Int) * k≤2 ^ 27) (h:Q (.int (a ^ k.toNat)) σ):de af w cx (kM .Pow) (.int a) (.int k) σ Q E:=by
 rintro s _ _ r ⟨t,rfl⟩ ⟨u,rfl⟩;exact PyProof.Rows.pow_int hn hsz (j8 r cQ h)
theorem EH {l rr:Expr} {op:CmpOp} (h:bZ af w cx l σ (fun a σ₁=>bZ af w cx rr σ₁ (fun b σ₂=>de af w cx (bL op) a b σ₂ Q E) E) E) (hm:oO op rr=false:=by with_unfolding_all rfl) :
  bZ af w cx (.Compare l [op] [rr] pos) σ Q E:=fun s r=>by
 refine wpAny_Compare1 (ak (h s r) (fun va s₁ zz=>zz.use fun a σ₁ r₁ v₁ m₁ q₁=>ak (q₁ s₁ r₁) (fun vb s₂ zz=>zz.use fun b σ₂ r₂ v₂ m₂ q₂=>?_) fun ux ux e=>e.mono m₁) fun ux ux e=>e) hm
 refine ak (q₂ s₂ va vb r₂ (v₁.mono m₂) v₂) (fun v s₃ zz=>zz.use fun c σ₃ r₃ v₃ m₃ q₃=>⟨c,σ₃,r₃,v₃,(m₁.trans m₂).trans m₃,q₃⟩) fun ux ux e=>e.mono (m₁.trans m₂)
theorem D1 {l rr:Expr} {op:CmpOp} (h:bZ af w cx l σ (fun a σ₁=>bZ af w cx rr σ₁ (fun b σ₂=>de af w cx (bL op) a b σ₂ (fun v σ₃=>∃ c,v = .bool c∧QB c σ₃) E) E) E) (hm:oO op rr=false:=by with_unfolding_all rfl) :
  og af w cx (.Compare l [op] [rr] pos) σ QB E:=fun s r=>by
 refine wpAny_isTrue_Compare1 (ak (h s r) (fun va s₁ zz=>zz.use fun a σ₁ r₁ v₁ m₁ q₁=>ak (q₁ s₁ r₁) (fun vb s₂ zz=>zz.use fun b σ₂ r₂ v₂ m₂ q₂=>?_) fun ux ux e=>e.mono m₁) fun ux ux e=>e) hm
 refine ak (q₂ s₂ va vb r₂ (v₁.mono m₂) v₂) (fun v s₃ zz=>zz.use fun c σ₃ r₃ v₃ m₃ zz=>?_) fun ux ux e=>e.mono (m₁.trans m₂)
 obtain ⟨d,hc,q₃⟩:=zz
 subst hc
 rw [show v = .bool d from v₃]
 exact eY ⟨d,σ₃,r₃,rfl,(m₁.trans m₂).trans m₃,q₃⟩
theorem eU {a b:Int} (h:Q (.bool (decide (a<b))) σ):de af w cx (bL .Lt) (.int a) (.int b) σ Q E:=by
 rintro s _ _ r ⟨t,rfl⟩ ⟨u,rfl⟩;exact PyProof.Rows.lt_int (dT r dk h)
theorem jT {a b:Int} (h:Q (.bool (decide (b<a))) σ):de af w cx (bL .Gt) (.int a) (.int b) σ Q E:=by
 rintro s _ _ r ⟨t,rfl⟩ ⟨u,rfl⟩;exact PyProof.Rows.gt_int (dT r dk h)
theorem rq {a b:Int} (h:Q (.bool (decide (a≤b))) σ):de af w cx (bL .LtE) (.int a) (.int b) σ Q E:=by
 rintro s _ _ r ⟨t,rfl⟩ ⟨u,rfl⟩;exact PyProof.Rows.le_int (dT r dk h)
theorem rt {a b:Int} (h:Q (.bool (decide (b≤a))) σ):de af w cx (bL .GtE) (.int a) (.int b) σ Q E:=by
 rintro s _ _ r ⟨t,rfl⟩ ⟨u,rfl⟩;exact PyProof.Rows.ge_int (dT r dk h)
theorem nE {a b:Int} (h:Q (.bool (a == b)) σ):de af w cx (bL .Eq) (.int a) (.int b) σ Q E:=by
 rintro s _ _ r ⟨t,rfl⟩ ⟨u,rfl⟩;exact PyProof.Rows.eq_int (dT r dk h)
theorem kJ {a b:Int} (h:Q (.bool (a != b)) σ):de af w cx (bL .NotEq) (.int a) (.int b) σ Q E:=by
 rintro s _ _ r ⟨t,rfl⟩ ⟨u,rfl⟩;exact PyProof.Rows.ne_int (dT r dk h)
theorem D0 {e:Expr} (h:og af w cx e σ (fun c σ₁=>QB (!c) σ₁) E):og af w cx (.UnaryOp .Not e pos) σ QB E:=fun s r =>
 isTrue_not (ak (h s r) (fun c s₁ zz=>zz.use fun c' σ₁ r₁ v₁ m₁ q₁=>⟨!c',σ₁,r₁,by rw [show c'=c from v₁];rfl,m₁,q₁⟩) fun ux ux e=>e)
theorem BP {s:az} {x:Expr} {rest:List Expr} {pos:Pos} {whole:Sem Value} (r:R af w cx σ s)
  (h:og af w cx x σ (fun c σ₁=>if c then ∀ s₁,R af w cx σ₁ s₁→wpAny (model af w) cx.A (isTrue (.BoolOp .And rest pos) cx.env whole) (dU af w BR cx s₁ QB) (dh af w cx s₁ E) s₁ else QB false σ₁) E) :
  wpAny (model af w) cx.A (isTrue (.BoolOp .And (x::rest) pos) cx.env whole) (dU af w BR cx s QB) (dh af w cx s E) s:=by
 refine isTrue_and (ak (h s r) (fun c s₁ zz=>zz.use fun c' σ₁ r₁ v₁ m₁ q₁=>?_) fun ux ux e=>e)
 have hc:c'=c:=v₁
 subst hc
 cases c' with
 |true =>
  rw [if_pos rfl] at q₁ ⊢
  exact ak (q₁ s₁ r₁) (fun v s₂ zz=>zz.use fun d σ₂ r₂ v₂ m₂ q₂=>⟨d,σ₂,r₂,v₂,m₁.trans m₂,q₂⟩) fun ux ux e=>e.mono m₁
 |false=>exact ⟨false,σ₁,r₁,rfl,m₁,q₁⟩
theorem DT {s:az} {x:Expr} {rest:List Expr} {pos:Pos} {whole:Sem Value} (r:R af w cx σ s)
  (h:og af w cx x σ (fun c σ₁=>if c then QB true σ₁ else ∀ s₁,R af w cx σ₁ s₁→wpAny (model af w) cx.A (isTrue (.BoolOp .Or rest pos) cx.env whole) (dU af w BR cx s₁ QB) (dh af w cx s₁ E) s₁) E) :
  wpAny (model af w) cx.A (isTrue (.BoolOp .Or (x::rest) pos) cx.env whole) (dU af w BR cx s QB) (dh af w cx s E) s:=by
 refine isTrue_or (ak (h s r) (fun c s₁ zz=>zz.use fun c' σ₁ r₁ v₁ m₁ q₁=>?_) fun ux ux e=>e)
 have hc:c'=c:=v₁
 subst hc
 cases c' with
 |false =>
  simp only [bQ,if_false] at q₁ ⊢
  exact ak (q₁ s₁ r₁) (fun v s₂ zz=>zz.use fun d σ₂ r₂ v₂ m₂ q₂=>⟨d,σ₂,r₂,v₂,m₁.trans m₂,q₂⟩) fun ux ux e=>e.mono m₁
 |true=>exact ⟨true,σ₁,r₁,rfl,m₁,q₁⟩
theorem DZ {e:Expr} (h:bZ af w cx e σ (fun v σ₁=>∃ c,v = .bool c∧QB c σ₁) E) (he:isTrue e cx.env (eval e cx.env)=(do let v ← eval e cx.env;standAt e.pos;Cz [v] (truthy v)):=by rfl):og af w cx e σ QB E:=fun s r=>by
 refine isTrue_plain (ak (h s r) (fun v s₁ zz=>zz.use fun c σ₁ r₁ v₁ m₁ zz=>?_) fun ux ux e=>e) he
 obtain ⟨d,hc,q₁⟩:=zz
 subst hc
 rw [show v = .bool d from v₁]
 exact eY ⟨d,σ₁,r₁,rfl,m₁,q₁⟩
end
section
variable {K:Frag} {cx:CX} {sc:Scope} {n:Nat} {σ:AS} {Q:AV→AS→Prop} {QB:Bool→AS→Prop} {QF:AF→AS→Prop} {E:Value→AS→Prop} {pos:Pos}
theorem dU.mono {α β:Type} {rel:Heap→β→α→Prop} {s s₁ s':az} {Q:β→AS→Prop} {v:α} (vm:VM s.heap s₁.heap) (h:dU af w rel cx s₁ Q v s'):dU af w rel cx s Q v s':=
 let ⟨b,σ',a,c,d,e⟩:=h;⟨b,σ',a,c,vm.trans d,e⟩
theorem dU.imp {α β:Type} {rel:Heap→β→α→Prop} {s s':az} {Q Q':β→AS→Prop} {v:α} (hq:∀ b σ,Q b σ→Q' b σ) (h:dU af w rel cx s Q v s'):dU af w rel cx s Q' v s':=
 let ⟨b,σ',a,c,d,e⟩:=h;⟨b,σ',a,c,d,hq b σ' e⟩
theorem dh.imp {s s':az} {E E':Value→AS→Prop} {v:Value} (hq:∀ b σ,E b σ→E' b σ) (h:dh af w cx s E v s'):dh af w cx s E' v s':=
 let ⟨e,C,σ',s₀,L,a,b,c,d,f,g,i⟩:=h;⟨e,C,σ',s₀,L,a,b,c,d,⟨f.1,f.2.imp id (fun ⟨x,y⟩=>⟨x,hq _ x y⟩),f.3⟩,g,hq C σ' i⟩
theorem Wp.imp {α β:Type} {rel:Heap→β→α→Prop} {t:Sem α} {Q Q':β→AS→Prop} {E E':Value→AS→Prop} (h:Wp af w rel cx t σ Q E) (hq:∀ b σ,Q b σ→Q' b σ) (he:∀ b σ,E b σ→E' b σ):Wp af w rel cx t σ Q' E':=
 fun s r=>ak (h s r) (fun ux ux p=>p.imp hq) fun ux ux p=>p.imp he
theorem aW (h:QF .next σ):cf af w cx [] σ QF E:=fun s r=>Du (dT (rel:=FR) (b:=AF.next) r rfl h)
theorem AA {st:Stmt} {rest:List Stmt} (h:jv af w cx st σ (fun f σ₁=>match f with | .next=>cf af w cx rest σ₁ QF E|f=>QF f σ₁) E):cf af w cx (st::rest) σ QF E:=fun s r=>by
 refine wpAny_execs_cons (ak (h s r) (fun f s₁ zz=>zz.use fun a σ₁ r₁ v₁ m₁ q₁=>?_) fun ux ux e=>e)
 cases a with
 |next =>
  rw [show f = .next from v₁]
  exact ak (q₁ s₁ r₁) (fun ux ux p=>p.mono m₁) fun ux ux e=>e.mono m₁
 |brk=>rw [show f = .brk from v₁];exact ⟨.brk,σ₁,r₁,rfl,m₁,q₁⟩
 |cont=>rw [show f = .cont from v₁];exact ⟨.cont,σ₁,r₁,rfl,m₁,q₁⟩
 |ret a =>
  obtain ⟨v,rfl,hv⟩:=v₁
  exact ⟨.ret a,σ₁,r₁,⟨v,rfl,hv⟩,m₁,q₁⟩
theorem ex_if {test:Expr} {body orelse:List Stmt} (h:og af w cx test σ (fun c σ₁=>if c then cf af w cx body σ₁ QF E else cf af w cx orelse σ₁ QF E) E):jv af w cx (.If test body orelse pos) σ QF E:=fun s r=>by
 refine wpAny_If (ak (h s r) (fun c s₁ zz=>zz.use fun c' σ₁ r₁ v₁ m₁ q₁=>?_) fun ux ux e=>e)
 have hc:c'=c:=v₁
 subst hc
 cases c' with
 |true=>exact ak (q₁ s₁ r₁) (fun ux ux p=>p.mono m₁) fun ux ux e=>e.mono m₁
 |false=>exact ak (q₁ s₁ r₁) (fun ux ux p=>p.mono m₁) fun ux ux e=>e.mono m₁
theorem EF {e:Expr} (h:bZ af w cx e σ (fun a σ₁=>QF (.ret a) σ₁) E):jv af w cx (.Return (some e) pos) σ QF E:=fun s r =>
 wpAny_Return_some (ak (h s r) (fun v s₁ zz=>zz.use fun a σ₁ r₁ v₁ m₁ q₁=>⟨.ret a,σ₁,r₁,⟨v,rfl,v₁⟩,m₁,q₁⟩) fun ux ux e=>e)
theorem oJ (ok:Ok af K cx sc n) {x:Str} {a:AV} {Q:Unit→AS→Prop} (hx:sc.names.lookup x=some .local) (h:Q () (σ.set x a)):WSt af w cx (storeName cx.env x) a σ Q E:=fun s va r hv=>by
 have hk:cx.env.kindOf x=some .local:=by unfold tR;rw [ok.scope];exact hx
 obtain ⟨m,hn⟩:=r.ns
 refine wpAny_storeName_local hk hn (fun h' hn' hs=>?_) (by rw [ok.scope,ok.kind];rfl)
 obtain ⟨r',vm⟩:=r.storeL (tk:=s.toks+1) hk hn hv hn' hs
 exact ⟨(),_,r',trivial,vm,h⟩
theorem yc (ok:Ok af K cx sc n) {x:Str} {value:Expr} {pos':Pos} (h:bZ af w cx value σ (fun a σ₁=>QF .next (σ₁.set x a)) E) (hx:sc.names.lookup x=some .local)
  (hs:g8 value (some (.Name x pos')) pos.line cx.env=pure false):jv af w cx (.Assign [.Name x pos'] value pos) σ QF E:=fun s r=>by
 refine wpAny_Assign_Name (ak (h s r) (fun v s₁ zz=>zz.use fun a σ₁ r₁ v₁ m₁ q₁=>?_) fun ux ux e=>e) hs
 refine ak (oJ (Q:=fun ux σ'=>QF .next σ') ok hx q₁ s₁ v r₁ v₁) (fun ux s₂ zz=>zz.use fun ux σ₂ r₂ ux m₂ q₂=>⟨.next,σ₂,r₂,rfl,m₁.trans m₂,q₂⟩) fun ux ux e=>e.mono m₁
end
section
variable {K:Frag} {cx:CX} {sc:Scope} {n:Nat} {σ:AS} {E:Value→AS→Prop}
theorem dX {a:Addr} {l:List Env} (h:a∈l.filterMap (·.frame)):∃ e∈l,e.frame=some a:=by
 obtain ⟨e,he,hf⟩:=bP.mp h;exact ⟨e,he,hf⟩
theorem R.slots {s₀:az} {h':Heap} {tk:Nat} (r:R af w cx σ s₀) (k:(et s₀.heap cx.frames).StaysIn h') (u:s₀.heap.UpToSlots h'):R af w cx σ { s₀ with heap:=h',toks:=tk }:=by
 have keep:∀ b o,b∉cx.frames→s₀.heap.get? b=some o→h'.get? b=some o:=fun b o n e=>k b o (hideAll_get _ e n)
 have vm:=VM.of_slots u
 have offBase:∀ b o,cx.base.get? b=some o→b∉cx.frames:=fun b o e hm=>by
  have:=(r.ff.mem hm).1;rw [this] at e;cases e
 refine ⟨fun b o e=>keep b o (offBase b o e) (r.stay b o e),?_,?_,fun x v e=>?_,fun b o e=>?_,fun b m e=>?_,fun a ao e=>?_,r.own,fun x c e=>?_,r.oth,r.gens,r.drawn,r.os⟩
 ·exact r.ff.of_keeps fun b o e hn=>let ⟨sl,e'⟩:=u b o e hn;⟨_,e',rfl⟩
 ·obtain ⟨m,hm⟩:=r.ns;exact ⟨m,u.ns hm⟩
 ·obtain ⟨y,l,b⟩:=r.loc x v e
  refine ⟨y,?_,b.mono vm⟩
  unfold ei at l ⊢
  split at l
  ·obtain ⟨m,a1,a2⟩:=l;exact ⟨m,u.ns a1,a2⟩
  ·obtain ⟨c,o,a1,a2,a3⟩:=l
   exact ⟨c,o,a1,keep c o (fun hm=>by obtain ⟨en,he,hf⟩:=dX hm;exact (r.cel x c a1).2.2 en he hf) a2,a3⟩
  ·obtain ⟨c,o,a1,a2,a3⟩:=l
   exact ⟨c,o,a1,keep c o (fun hm=>by obtain ⟨en,he,hf⟩:=dX hm;exact (r.cel x c a1).2.2 en he hf) a2,a3⟩
  ·exact l
 ·obtain ⟨e',f⟩:=r.pr b o e
  exact ⟨keep b _ f e',f⟩
 ·obtain ⟨e',f⟩:=r.pn b m e
  exact ⟨u.ns e',f⟩
 ·obtain ⟨p,q1,q2,q3,q4⟩:=r.ob a ao e
  exact ⟨p.at vm fun o e'=>keep a o (fun hm=>by obtain ⟨en,he,hf⟩:=dX hm;exact q4 en he hf) e',q1,q2,q3,q4⟩
 ·obtain ⟨p,⟨o,v,q1,q2⟩,q3⟩:=r.cel x c e
  exact ⟨p,⟨o,v,keep c o (fun hm=>by obtain ⟨en,he,hf⟩:=dX hm;exact q3 en he hf) q1,q2⟩,q3⟩
theorem mq {h h':Heap} (k:∀ b o,h.get? b=some o→(∀ vs,o.data ≠ .fields vs)→∃ sl,h'.get? b=some { o with slots:=sl }):h.UpToSlots h':=k
theorem F2.same {h h':Heap} {e:Addr} (x:F2 h e) (k:h'.get? e=h.get? e):F2 h' e:=
 let ⟨oe,vs,a,b,c⟩:=x;⟨oe,vs,k.trans a,b,c⟩
theorem AJ {M:Model} {A:dM} {E':Value→az→Prop} {s:az} {base:Heap} {env:Env} {outer:List Env} {L e:Addr} {oe:Obj} {vs:Array Value} {head a0:Value} {hadNext:Bool} {Q:Unit→az→Prop}
  (hfr:A.frames=some (env::outer)) (hl:s.heap.FunFrames base (env::outer)) (hf:env.frame=some L) (he:s.heap.get? e=some oe) (hkb:base.StaysIn s.heap) (hen:base.get? e=none) (hd:oe.data = .fields vs) (hsz:1<vs.size) (h0:vs[0]?=some a0)
  (h:∀ h',Heap.NotedW base (env::outer) e oe.cls a0 (eG L) s.heap h'→(F2 s.heap e→F2 h' e)→Q () { s with heap:=h' }) :
  wpAny M A (do let a ← frameOf env;let pl ← entryPlaceOf L hadNext;let b ← EntryCells.newEntry head a .none (eG L) .none pl;setField (.ref e) 1 b) Q E' s:=by
 have off:e∉(env::outer).filterMap (·.frame):=fun hm=>by
  obtain ⟨_,o,ho,hn⟩:=hl.mem hm
  rw [he] at ho;cases ho;exact hn vs hd
 refine ag (wpAny_frameOf_fun hfr hl hf fun h₁ hs=>ag (wpAny_entryPlaceOf fun pl hpl=>?_))
 unfold EntryCells.newEntry newFields
 refine ag (iX ?_ (hpl.sizeOk5 _ _ _ _ _))
 generalize hx:([head,aZ L,.none,eG L,.none]++(if pl.isEmpty then List.replicate 6 ae else pl))=xs
 have x3:xs.toArray[3]?=some (eG L):=by rw [← hx];rfl
 clear hx
 have e1:h₁.get? e=some oe:=(hs.2.1 e off).trans he
 have e2:=aq (h:=h₁) { cls:=.type "traceback",dict:=none,data:=.fields xs.toArray } e1
 have ne:h₁.objs.size≠e:=d7 (bq e1)
 have d3:=lF hd (·.setIfInBounds 1 (aZ h₁.objs.size))
 have e3:=cg (gC (·.setIfInBounds 1 (aZ h₁.objs.size))) e2 (Fa d3)
 have t3:=(aP (h₁.push { cls:=.type "traceback",dict:=none,data:=.fields xs.toArray }) (gC (·.setIfInBounds 1 (aZ h₁.objs.size))) (bl ne)).trans (aS h₁ rfl)
 have kb:base.StaysIn h₁:=fun b o q=>(hs.2.1 b fun hm=>by rw [(hl.mem hm).1] at q;cases q).trans (hkb b o q)
 have keep:∀ b o,b≠e→h₁.get? b=some o→((h₁.push { cls:=.type "traceback",dict:=none,data:=.fields xs.toArray }).update e (gC (·.setIfInBounds 1 (aZ h₁.objs.size)))).get? b=some o:=
  fun b o hb q=>(aP _ _ (bl hb)).trans (aq _ q)
 have plain:∀ b o,s.heap.get? b=some o→(∀ vs,o.data ≠ .fields vs)→b≠e:=fun b o q hn c=>by
  subst c;rw [he] at q;cases q;exact hn vs hd
 refine g6 e2 hd hsz (h _ ⟨fun b o q=>keep b o (fun c=>by rw [c,hen] at q;cases q) (kb b o q),hl.of_keeps fun b o q hn=>?_,?_,fun b o q hn=>?_⟩ fun ⟨oe',vs',g1,g2,g3⟩=>?_)
 ·obtain ⟨sl,q'⟩:=hs.2.2 b o q
  exact ⟨_,keep b _ (plain b o q hn) q',rfl⟩
 ·exact ⟨_,_,h₁.objs.size,_,_,e3,⟨Obj.cls_mapFields _ _,by rw [ef (by decide)];exact h0⟩,d3,by simp [hsz],kb.fresh,ne,t3,rfl,x3⟩
 ·obtain ⟨sl,q'⟩:=hs.2.2 b o q
  exact ⟨sl,keep b _ (plain b o q hn) q'⟩
 ·rw [he] at g1;cases g1;rw [hd] at g2;cases g2
  exact ⟨_,_,e3,d3,by rw [ef (by decide)];exact g3⟩
theorem note2 {M:Model} {A:dM} {E':Value→az→Prop} {s:az} {base:Heap} {env:Env} {outer:List Env} {L e:Addr} {cls a0:Value} {Q:Unit→az→Prop}
  (hfr:A.frames=some (env::outer)) (hl:s.heap.FunFrames base (env::outer)) (hf:env.frame=some L) (ht:s.heap.TracedW base e cls a0) (hkb:base.StaysIn s.heap) (hen:base.get? e=none)
  (h:∀ h',Heap.NotedW base (env::outer) e cls a0 (eG L) s.heap h'→(F2 s.heap e→F2 h' e)→Q () { s with heap:=h' }):wpAny M A (noteFrame (.ref e) env) Q E' s:=by
 obtain ⟨oe,vs,T,oT,ts,he,⟨hcls,h0⟩,hd,h1,hnT,hTe,hT,hdT,h3⟩:=ht
 subst hcls
 unfold noteFrame
 simp only [hf]
 refine ag (gj he hd h1 ?_)
 rw [if_pos (show (aZ T != ae)=true from by simp)]
 refine ag (gj hT hdT h3 ?_)
 rw [if_neg (show ¬ ((ae == eG L)=true) from by simp [eG])]
 refine ag (g6 hT hdT (bJ.mp h3).1 ?_)
 have other:∀ b,b≠T→(s.heap.update T (gC (·.setIfInBounds 3 ae))).get? b=s.heap.get? b:=fun b hb=>aP _ _ (bl hb)
 have plain:∀ b o,s.heap.get? b=some o→(∀ vs,o.data ≠ .fields vs)→b≠T:=fun b o q hn c=>by
  subst c;rw [hT] at q;cases q;exact hn ts hdT
 exact AJ hfr (hl.of_keeps fun b o q hn=>⟨o,(other b (plain b o q hn)).trans q,rfl⟩) hf ((other e (bl hTe)).trans he)
  (fun b o q=>(other b fun c=>by rw [c,hnT] at q;cases q).trans (hkb b o q)) hen hd (bJ.mp h1).1 h0
  fun h' ⟨x1,x2,x3,x4⟩ x5=>h h' ⟨x1,x2,x3,fun b o q hn=>x4 b o ((other b (plain b o q hn)).trans q) hn⟩ fun z=>x5 (z.same (other e (bl hTe)))
theorem zj {M:Model} {A:dM} {E':Value→az→Prop} {s:az} {base:Heap} {l:List Env} {e:Addr} {cls a0 fl:Value} {Q:Unit→az→Prop} (hkb:base.StaysIn s.heap) (hl:s.heap.FunFrames base l) (ht:s.heap.TracedAtW base e cls a0 fl)
  (h:∀ h',base.StaysIn h'→h'.FunFrames base l→h'.TracedW base e cls a0→(∀ b o,s.heap.get? b=some o→(∀ vs,o.data ≠ .fields vs)→h'.get? b=some o)→(F2 s.heap e→F2 h' e)→Q () { s with heap:=h' }):wpAny M A (setFlight (.ref e) none) Q E' s:=by
 obtain ⟨oe,vs,T,oT,ts,he,hcls,hd,h1,hnT,hTe,hT,hdT,h3⟩:=ht
 have sz:3<ts.size:=(bJ.mp h3).1
 have other:∀ b,b≠T→(s.heap.update T (gC (·.setIfInBounds 3 ((none:Option Addr).elim ae fun f=>eG f)))).get? b=s.heap.get? b:=fun b hb=>aP _ _ (bl hb)
 have plain:∀ b o,s.heap.get? b=some o→(∀ vs,o.data ≠ .fields vs)→b≠T:=fun b o q hn c=>by
  subst c;rw [hT] at q;cases q;exact hn ts hdT
 unfold setFlight
 refine ag (gj he hd h1 ?_)
 rw [if_pos (show (aZ T != ae)=true from by simp)]
 refine g6 hT hdT sz (h _ (fun b o q=>(other b fun c=>by rw [c,hnT] at q;cases q).trans (hkb b o q)) (hl.of_keeps fun b o q hn=>⟨o,(other b (plain b o q hn)).trans q,rfl⟩) ?_ (fun b o q hn=>(other b (plain b o q hn)).trans q) fun z=>z.same (other e (bl hTe)))
 exact ⟨oe,vs,T,_,_,(other e (bl hTe)).trans he,hcls,hd,h1,hnT,hTe,cg _ hT (Fa (lF hdT _)),lF hdT _,by simp [sz]⟩
theorem q8 {M:Model} {s:az} {h₀:Heap} {L e:Addr} {C:Value} {X:Prop} {E':Value→az→Prop} {Q:Unit→az→Prop} (hfr:cx.A.frames=some (cx.fenv::cx.outer)) (hfe:cx.env=cx.fenv) (x:XC cx h₀ s.heap L e) (es:ES (et h₀ cx.frames) L e C s.heap X)
  (hq:∀ h' a0,XC cx h₀ h' L e→h'.TracedAtW (et h₀ cx.frames) e C a0 (eG L)→F2 h' e∨X→Q () { s with heap:=h' }):wpAny M cx.A (noteFrame (.ref e) cx.env) Q E' s:=by
 rw [hfe]
 obtain ⟨es,ff,_⟩:=es
 rcases es with ⟨oe,vs,a0,he,hC,hd,h1,h0⟩|⟨a0,ht⟩|⟨a0,ht⟩
 ·unfold noteFrame
  simp only [x.fr]
  refine ag (gj he hd h1 ?_)
  rw [if_neg (by decide)]
  subst hC
  exact AJ hfr x.ff x.fr he x.st x.new hd (bJ.mp h1).1 h0 fun h' ⟨x1,x2,x3,x4⟩ k=>hq h' a0 ⟨x.fr,x1,x.new,x2,x.up.trans (mq x4)⟩ x3 (ff.imp k id)
 ·exact note2 hfr x.ff x.fr ht x.st x.new fun h' ⟨x1,x2,x3,x4⟩ k=>hq h' a0 ⟨x.fr,x1,x.new,x2,x.up.trans (mq x4)⟩ x3 (ff.imp k id)
 ·exact wpAny_noteFrame_againW x.fr ht (hq s.heap a0 x ht ff)
theorem Bj {M:Model} {s:az} {h₀:Heap} {L e:Addr} {C a0:Value} {E':Value→az→Prop} (hfe:cx.env=cx.fenv) (x:XC cx h₀ s.heap L e) (ht:s.heap.TracedAtW (et h₀ cx.frames) e C a0 (eG L))
  (hq:∀ h',XC cx h₀ h' L e→h'.TracedAtW (et h₀ cx.frames) e C a0 (eG L)→(F2 s.heap e→F2 h' e)→E' (.ref e) { s with heap:=h' }):cameBackBy M cx.A cx.env E' (.ref e) s:=by
 unfold cameBackBy
 rw [hfe]
 obtain ⟨oe,vs,T,oT,ts,he,hcls,hd,h1,hnT,hTe,hT,hdT,h3⟩:=ht
 have hsz3:3<ts.size:=(bJ.mp h3).1
 refine ag (gj he hd h1 ?_)
 rw [if_neg (show ¬ ((aZ T == ae)=true) from by simp)]
 unfold setFlight
 refine ag (gj he hd h1 ?_)
 rw [if_pos (show (aZ T != ae)=true from by simp)]
 rw [x.fr]
 have other:∀ b,b≠T→(s.heap.update T (gC (·.setIfInBounds 3 ((some L:Option Addr).elim ae fun f=>eG f)))).get? b=s.heap.get? b:=fun b hb=>aP _ _ (bl hb)
 have noRecord:∀ b o,s.heap.get? b=some o→(∀ vs,o.data ≠ .fields vs)→b≠T:=fun b o hb hnf q=>by
  rw [q,hT] at hb;injection hb with hb;subst hb;exact hnf ts hdT
 refine g6 hT hdT hsz3 (hq _ ⟨x.fr,fun b o hbo=>(other b fun q=>by rw [q,hnT] at hbo;cases hbo).trans (x.st b o hbo),x.new,
  x.ff.of_keeps fun b o hb hnf=>⟨o,(other b (noRecord b o hb hnf)).trans hb,rfl⟩,x.up.trans fun b o hb hnf=>⟨o.slots,(other b (noRecord b o hb hnf)).trans hb⟩⟩ ?_ fun z=>z.same (other e (bl hTe)))
 exact ⟨oe,vs,T,_,_,(other e (bl hTe)).trans he,hcls,hd,h1,hnT,hTe,cg _ hT (Fa (lF hdT _)),lF hdT _,by simp [hsz3]⟩
theorem qY {s s₁:az} (hfr:cx.A.frames=some (cx.fenv::cx.outer)) (hfe:cx.env=cx.fenv) (vm:VM s.heap s₁.heap) {v:Value} {s':az} (h:dh af w cx s₁ E v s') :
  Cj (model af w) cx.A cx.env (fun e s''=>cameBackBy (model af w) cx.A cx.env (dh af w cx s E) e s'') v s':=by
 obtain ⟨e,C,σ',s₀,L,rfl,r,hs,x,es,m,he⟩:=h
 unfold Cj
 refine q8 hfr hfe x es fun h' a0 x' ht ff=>?_
 refine Bj hfe x' ht fun h'' x'' ht' k=>?_
 exact ⟨e,C,σ',s₀,L,rfl,r,by rw [hs],x'',⟨.inr (.inr ⟨a0,ht'⟩),ff.imp k id,es.3⟩,vm.trans m,he⟩
end
section
variable {K:Frag} {cx:CX} {sc:Scope} {n:Nat} {σ:AS} {Q:AV→AS→Prop} {QB:Bool→AS→Prop} {QF:AF→AS→Prop} {E:Value→AS→Prop} {pos:Pos}
noncomputable def CX.withP (cx:CX) (P':Addr→Obj→Prop):CX:={ cx with P:=P' }
theorem Ok.withP (ok:Ok af K cx sc n) (P':Addr→Obj→Prop):Ok af K (cx.withP P') sc n:=⟨ok.1,ok.2,ok.3,ok.4,ok.5,ok.6,ok.7,ok.8,ok.9,ok.10,ok.11,ok.12,ok.13,ok.14,ok.15,ok.16,ok.17⟩
theorem R.lessP {P':Addr→Obj→Prop} {s:az} (hP:∀ b o,cx.P b o→P' b o) (r:R af w (cx.withP P') σ s):R af w cx σ s:=
 ⟨r.stay,r.ff,r.ns,r.loc,fun b o e=>r.pr b o (hP b o e),r.pn,fun a ao e=>let ⟨p,q1,q2,q3⟩:=r.ob a ao e;⟨p,q1,fun o e'=>q2 o (hP a o e'),q3⟩,
  fun a e=>let ⟨q1,q2,q3⟩:=r.own a e;⟨q1,fun o e'=>q2 o (hP a o e'),q3⟩,r.cel,r.oth,r.gens,r.drawn,r.os⟩
theorem dh.lessP {P':Addr→Obj→Prop} {s s':az} {v:Value} (hP:∀ b o,cx.P b o→P' b o) (h:dh af w (cx.withP P') s E v s'):dh af w cx s E v s':=
 let ⟨e,C,σ',s₀,L,a,b,c,d,f,g,i⟩:=h;⟨e,C,σ',s₀,L,a,b.lessP hP,c,⟨d.1,d.2,d.3,d.4,d.5⟩,f,g,i⟩
structure Off (cx:CX) (σ:AS) (I:Addr):Prop where
 base:cx.base.get? I=none
 P:∀ o,¬ cx.P I o
 hp:∀ ao,σ.hp I≠some ao
 own:¬ cx.own I
 fr:I∉cx.frames
theorem Off.new {s:az} {I:Addr} (r:R af w cx σ s) (hn:s.heap.get? I=none):Off cx σ I:=by
 have fresh:∀ b o,s.heap.get? b=some o→b≠I:=fun b o e q=>by subst q;rw [hn] at e;cases e
 refine ⟨?_,fun o e=>fresh _ _ (r.pr I o e).1 rfl,fun ao e=>?_,fun hb=>?_,fun hm=>?_⟩
 ·cases q:cx.base.get? I with
  |none=>rfl
  |some o=>exact absurd rfl (fresh _ _ (r.stay I o q))
 ·obtain ⟨o,ho,_⟩:=(r.ob I ao e).1.there
  exact fresh _ _ ho rfl
 ·rcases hb with q|⟨x,q⟩
  ·obtain ⟨m,o,es,ep,e1,_⟩:=r.ns
   exact fresh _ _ e1 q.symm
  ·obtain ⟨_,⟨o,v,c1,_⟩,_⟩:=r.cel x I q
   exact fresh _ _ c1 rfl
 ·obtain ⟨_,o,h1,_⟩:=r.ff.mem hm
  exact fresh _ _ h1 rfl
theorem R.off {s:az} {h':Heap} {tk:Nat} {I:Addr} {o₀:Obj} (r:R af w cx σ s) (f:Off cx σ I) (h0:s.heap.get? I=some o₀) (n0:∀ xs n,o₀.data ≠ .seq xs n) (keep:∀ b o,b≠I→s.heap.get? b=some o→h'.get? b=some o) :
  R af w cx σ { s with heap:=h',toks:=tk }∧VM s.heap h':=by
 have vm:VM s.heap h':=fun b o xs n e ux d=>⟨o.slots,keep b o (fun q=>by subst q;rw [h0] at e;cases e;exact n0 _ _ d) e⟩
 have ownNe:∀ b,cx.own b→b≠I:=fun b hb q=>by subst q;exact f.own hb
 have frNe:∀ b,b∈cx.frames→b≠I:=fun b hb q=>by subst q;exact f.fr hb
 refine ⟨⟨fun b o e=>?_,?_,?_,fun x v e=>?_,fun b o e=>?_,fun b m e=>?_,fun b bo e=>?_,r.own,fun x c e=>?_,r.oth,r.gens,r.drawn,r.os⟩,vm⟩
 ·exact keep b o (fun q=>by subst q;rw [f.base] at e;cases e) (r.stay b o e)
 ·have:∀ l,(∀ e∈l,∀ a,e.frame=some a→a≠I)→s.heap.FunFrames cx.base l→h'.FunFrames cx.base l:=by
   intro l
   induction l with
   |nil=>exact fun ux ux=>trivial
   |cons e l ih =>
    rintro hne ⟨hk,⟨L,o,hf,hn,ho,hd⟩,hr⟩
    exact ⟨hk,⟨L,o,hf,hn,keep L o (hne e (.head _) L hf) ho,hd⟩,ih (fun e he=>hne e (.tail _ he)) hr⟩
  exact this _ (fun e he a ha=>frNe a (bP.mpr ⟨e,he,ha⟩)) r.ff
 ·obtain ⟨m,o,es,ep,e1,e2⟩:=r.ns
  exact ⟨m,o,es,ep,keep _ o (ownNe _ (.inl rfl)) e1,e2⟩
 ·obtain ⟨u,l,b⟩:=r.loc x v e
  refine ⟨u,?_,b.mono vm⟩
  unfold ei at l ⊢
  split at l
  ·obtain ⟨m,⟨o,es,ep,e1,e2⟩,a2⟩:=l
   exact ⟨m,⟨o,es,ep,keep _ o (ownNe _ (.inl rfl)) e1,e2⟩,a2⟩
  ·obtain ⟨c,o,a1,a2,a3⟩:=l
   exact ⟨c,o,a1,keep c o (ownNe c (.inr ⟨x,a1⟩)) a2,a3⟩
  ·obtain ⟨c,o,a1,a2,a3⟩:=l
   exact ⟨c,o,a1,keep c o (ownNe c (.inr ⟨x,a1⟩)) a2,a3⟩
  ·exact l
 ·obtain ⟨e',g⟩:=r.pr b o e
  exact ⟨keep b _ (fun q=>by subst q;exact f.P o e) e',g⟩
 ·obtain ⟨⟨o,es,ep,e1,e2⟩,g⟩:=r.pn b m e
  exact ⟨⟨o,es,ep,keep b o (frNe b g) e1,e2⟩,g⟩
 ·obtain ⟨p',q'⟩:=r.ob b bo e
  exact ⟨p'.at vm fun o e'=>keep b o (fun q=>by subst q;exact f.hp _ e) e',q'⟩
 ·obtain ⟨p',⟨o,v,c1,c2⟩,c3⟩:=r.cel x c e
  exact ⟨p',⟨o,v,keep c o (ownNe c (.inr ⟨x,e⟩)) c1,c2⟩,c3⟩
theorem R.guard {s:az} {I:Addr} {o:Obj} (r:R af w cx σ s) (f:Off cx σ I) (h0:s.heap.get? I=some o):R af w (cx.withP fun b x=>cx.P b x∨(b=I∧x=o)) σ s:=
 ⟨r.stay,r.ff,r.ns,r.loc,fun b x e=>e.elim (r.pr b x) (fun ⟨p,q⟩=>by subst p;subst q;exact ⟨h0,f.fr⟩),r.pn,
  fun a ao e=>let ⟨p,q1,q2,q3⟩:=r.ob a ao e;⟨p,q1,fun x e'=>e'.elim (q2 x) fun ⟨p',_⟩=>by subst p';exact f.hp _ e,q3⟩,
  fun a e=>let ⟨q1,q2,q3⟩:=r.own a e;⟨q1,fun x e'=>e'.elim (q2 x) fun ⟨p',_⟩=>by subst p';exact f.own e,q3⟩,r.cel,r.oth,r.gens,r.drawn,r.os⟩
theorem Off.of_guard {s:az} {I:Addr} {o:Obj} {σ σ':AS} (f:Off cx σ I) (r:R af w (cx.withP fun b x=>cx.P b x∨(b=I∧x=o)) σ' s):Off cx σ' I:=
 ⟨f.base,f.P,fun ao e=>(r.ob I ao e).2.2.1 o (.inr ⟨rfl,rfl⟩),f.own,f.fr⟩
theorem tc (ok:Ok af K cx sc n) (hfe:cx.env=cx.fenv) {test:Expr} {body:List Stmt} (J:Nat→AS→Prop) (k₀:Nat) (h0:J k₀ σ)
  (turn:∀ k σ₁,J k σ₁→og af w cx test σ₁ (fun c σ₂=>if c then cf af w cx body σ₂ (fun f σ₃=>match f with | .next | .cont=>∃ m,m<k∧J m σ₃ | .brk=>QF .next σ₃ | .ret v=>QF (.ret v) σ₃) E else QF .next σ₂) E) :
  jv af w cx (.While test body [] pos) σ QF E:=fun s r=>by
 refine wpAny_While (codeAny_whileLoop (I:=fun k s'=>∃ σ',R af w cx σ' s'∧VM s.heap s'.heap∧J k σ') ?_ k₀ ⟨σ,r,VM.refl _,h0⟩)
 rintro k s₁ ⟨σ₁,r₁,m₁,hj⟩
 refine ak (turn k σ₁ hj s₁ r₁) (fun c s₂ zz=>zz.use fun c' σ₂ r₂ v₂ m₂ q₂=>?_) fun e s' p=>qY ok.fr hfe m₁ p
 have hc:c'=c:=v₂
 subst hc
 cases c' with
 |false=>exact Du ⟨.next,σ₂,r₂,rfl,m₁.trans m₂,q₂⟩
 |true =>
  refine ak (q₂ s₂ r₂) (fun f s₃ zz=>zz.use fun a σ₃ r₃ v₃ m₃ q₃=>?_) fun e s' p=>qY ok.fr hfe (m₁.trans m₂) p
  have mm:=(m₁.trans m₂).trans m₃
  cases a with
  |next=>rw [show f = .next from v₃];obtain ⟨m,hm,hj'⟩:=q₃;exact ⟨m,hm,σ₃,r₃,mm,hj'⟩
  |cont=>rw [show f = .cont from v₃];obtain ⟨m,hm,hj'⟩:=q₃;exact ⟨m,hm,σ₃,r₃,mm,hj'⟩
  |brk=>rw [show f = .brk from v₃];exact ⟨.next,σ₃,r₃,rfl,mm,q₃⟩
  |ret a=>obtain ⟨v,rfl,hv⟩:=v₃;exact ⟨.ret a,σ₃,r₃,⟨v,rfl,hv⟩,mm,q₃⟩
noncomputable def rI (J:AS→Prop) (QF:AF→AS→Prop) (f:AF) (σ:AS):Prop:=match f with | .next | .cont=>J σ | .brk=>QF .next σ | .ret v=>QF (.ret v) σ
theorem lL {h:Heap} {I l:Addr} {i:Nat} (x:h.IsListIter I l i):∃ o,h.get? I=some o∧(∀ xs n,o.data ≠ .seq xs n)∧∀ h':Heap,h'.get? I=some o→h'.IsListIter I l i:=by
 obtain ⟨o,a,b,c⟩:=x
 exact ⟨o,a,by intro xs n;rw [c];simp,fun h' e=>⟨o,e,b,c⟩⟩
theorem nq (a b c:Int) (hc:c≠0):0≤d9 a b c:=by
 unfold d9
 split
 ·split
  ·have:0≤(b - a - 1) / c:=Int.ediv_nonneg (by lia) (by (exact gU (by assumption)))
   lia
  ·decide
 ·split
  ·have:0≤(a - b - 1) / (-c):=Int.ediv_nonneg (by lia) (by lia)
   lia
  ·decide
noncomputable def AS.lst (σ:AS) (a:Addr) (l:List AV):Prop:=σ.hp a=some (.list l)∨σ.hp a=some (.ro l)
theorem R.lst {s:az} {a:Addr} {l:List AV} (r:R af w cx σ s) (h:σ.lst a l):∃ vs,s.heap.IsList a (List.toArray vs)∧iM s.heap l vs:=by
 rcases h with h|h
 ·obtain ⟨⟨vs,p,q⟩,_⟩:=r.ob _ _ h
  exact ⟨vs,p.isList,q⟩
 ·obtain ⟨⟨vs,p,q⟩,_⟩:=r.ob _ _ h
  exact ⟨vs,p,q⟩
structure Fp (af:aV) (w:World) (cx:CX) (I:Addr) (l:List AV) (T:AS→Prop) (It:Nat→Heap→Prop):Prop where
 data:∀ i h,It i h→∃ o,h.get? I=some o∧(∀ xs n,o.data ≠ .seq xs n)∧∀ h':Heap,h'.get? I=some o→It i h'
 item:∀ i s σ a (Q:Option Value→az→Prop) (E:Value→az→Prop),l[i]?=some a→R af w cx σ s→T σ→It i s.heap →
  (∀ v h' tk,VR s.heap a v→It (i+1) h'→(∀ b o,b≠I→s.heap.get? b=some o→h'.get? b=some o)→Q (some v) { s with heap:=h',toks:=tk })→wpAny (model af w) cx.A (oA (.ref I)) Q E s
 done:∀ s σ (Q:Option Value→az→Prop) (E:Value→az→Prop),R af w cx σ s→T σ→It l.length s.heap →
  (∀ h' tk,(∀ b o,b≠I→s.heap.get? b=some o→h'.get? b=some o)→Q none { s with heap:=h',toks:=tk })→wpAny (model af w) cx.A (oA (.ref I)) Q E s
 self:∀ i s (Q:Value→az→Prop) (E:Value→az→Prop),It i s.heap→Q (.ref I) s→wpAny (model af w) cx.A (pyIter (.ref I)) Q E s
theorem src_list (hh:cx.A.handled=none) (I ax:Addr) (l:List AV):Fp af w cx I l (fun σ=>σ.lst ax l) (fun i h=>h.IsListIter I ax i) where
 data:=fun i h it=>lL it
 item:=fun i s σ a Q E ha r hT it hQ=>by
  obtain ⟨vs,hl,hv⟩:=r.lst hT
  obtain ⟨v,hvi,hva⟩:=hv.get ha
  exact wpAny_pyNext_list_item it hl (x:=v) (by simpa using hvi) fun h' it' hs'=>hQ v h' s.toks hva it' fun b o hb e=>(hs'.2 b hb).trans e
 done:=fun s σ Q E r hT it hQ=>by
  obtain ⟨vs,hl,hv⟩:=r.lst hT
  exact wpAny_pyNext_list_end hh it hl (by simp [hv.length]) fun h' he'=>hQ h' s.toks fun b o hb e=>he' b o hb e
 self:=fun i s Q E it hQ=>wpAny_pyIter_listiter it hQ
theorem src_range (hh:cx.A.handled=none) (I:Addr) (a c:Int) (N:Nat):Fp af w cx I ((iR N).map fun i:Nat=>AV.int (a+i * c)) (fun ux=>True) (fun i h=>IsRangeIter h I (a+(i:Nat) * c) ((N:Int) - (i:Nat)) c) where
 data:=fun i h it=>⟨_,it,by intro xs n;simp,fun h' e=>e⟩
 item:=fun i s σ x Q E ha r hT it hQ=>by
  have hi:i<N:=by
   rw [aR] at ha
   cases q:(iR N)[i]? with
   |none=>rw [q] at ha;cases ha
   |some j=>have:=(aF.mp q).1;simpa using this
  have hx:x = .int (a+i * c):=by
   rw [aR,om hi] at ha
   simpa using ha.symm
  subst hx
  refine (Walks.range hh I a c N).item i s Q E hi it fun v h' tk hv it' hs'=>?_
  obtain ⟨tv,rfl⟩:=hv
  exact hQ _ h' tk cQ it' fun b o hb e=>hs' b o (by simpa using hb) e
 done:=fun s σ Q E r hT it hQ=>by
  rw [aj,cC] at it
  exact (Walks.range hh I a c N).done s Q E it fun h' tk he'=>hQ h' tk fun b o hb e=>he' b o (by simpa using hb) e
 self:=fun i s Q E it hQ=>(Walks.range hh I a c N).self i s Q E it hQ
inductive yC (σ:AS) (J:AS→Prop):AV→List AV→Prop
 |list {x l}:σ.lst x l→(∀ σ',J σ'→σ'.lst x l)→yC σ J (.ref x) l
 |range {x a b c}:σ.hp x=some (.range a b c)→c≠0→Builtin.Range.small a b c=true→yC σ J (.ref x) ((iR (d9 a b c).toNat).map fun i:Nat=>AV.int (a+i * c))
theorem lX (hh:cx.A.handled=none) {s:az} {v:Value} {a:AV} {l:List AV} {E':Value→az→Prop} (r:R af w cx σ s) {J:AS→Prop} (hi:yC σ J a l) (hv:VR s.heap a v) :
  wpAny (model af w) cx.A (pyIter v) (fun it s₂=>∃ I T It,it = .ref I∧R af w cx σ s₂∧VM s.heap s₂.heap∧Fp af w cx I l T It∧(∀ σ',J σ'→T σ')∧It 0 s₂.heap∧Off cx σ I) E' s:=by
 have hnone:s.heap.get? s.heap.objs.size=none:=by
  cases q:s.heap.get? s.heap.objs.size with
  |none=>rfl
  |some o=>exact absurd (bq q) (ba _)
 cases hi with
 |@list ax l hl hJ =>
  rw [show v = .ref ax from hv]
  obtain ⟨vs,hl',hv'⟩:=r.lst hl
  refine wpAny_pyIter_list hl' ?_
  have k:∀ b o,s.heap.get? b=some o→(s.heap.push { cls:=.type "list_iterator",data:=.fields #[.ref ax,.int 0 0] }).get? b=some o:=fun b o e=>aq _ e
  exact ⟨_,_,_,rfl,r.grow (tk:=s.toks) k,VM.of_keeps k,src_list hh _ ax l,hJ,⟨_,aS _ rfl,rfl,rfl⟩,Off.new r hnone⟩
 |@range ax x y c hr hc0 hsm =>
  rw [show v = .ref ax from hv]
  obtain ⟨⟨t,u,v',hR⟩,_⟩:=r.ob ax _ hr
  refine wpAny_pyIter_range hR hsm ?_
  obtain ⟨N,hN⟩:∃ N:Nat,d9 x y c=N:=⟨(d9 x y c).toNat,by rw [Int.toNat_of_nonneg (nq x y c hc0)]⟩
  rw [hN,fX]
  have k:∀ b o,s.heap.get? b=some o→(s.heap.push { cls:=.type "range_iterator",data:=.fields #[eG x,eG N,eG c] }).get? b=some o:=fun b o e=>aq _ e
  have it0:IsRangeIter (s.heap.push { cls:=.type "range_iterator",data:=.fields #[eG x,eG N,eG c] }) s.heap.objs.size x N c:=aS _ rfl
  exact ⟨_,_,_,rfl,r.grow (tk:=s.toks) k,VM.of_keeps k,src_range hh _ x c N,fun ux ux=>trivial,by simpa using it0,Off.new r hnone⟩
noncomputable def Fe (af:aV) (w:World) (cx:CX) (tgt:Expr) (σ:AS) (J:AS→Prop) (a:AV) (l:List AV):Prop:=∀ (s:az) (v:Value) (E':Value→az→Prop),R af w cx σ s→VR s.heap a v →
  wpAny (model af w) cx.A (pyIter v) (fun it s₂=>∃ I T It,it = .ref I∧R af w cx σ s₂∧VM s.heap s₂.heap∧Fp af w cx I l T It∧(∀ σ',J σ'→T σ')∧It 0 s₂.heap∧Off cx σ I ∧
   ∀ (i:Nat) (a:AV) (s:az) (v:Value) (Q:Unit→az→Prop) (E:Value→az→Prop),l[i]?=some a→VR s.heap a v→It (i+1) s.heap→Q () s→wpAny (model af w) cx.A (letOwnedTupleGo tgt (.ref I) v) Q E s) E' s
inductive ForG (af:aV) (w:World) (cx:CX) (tgt:Expr) (upd:AV→AS→AS) (body:List Stmt) (QF:AF→AS→Prop) (E:Value→AS→Prop) (v:AV) (σ₁:AS):Prop
 |mk (l:List AV) (J:Nat→AS→Prop) (hi:Fe af w cx tgt σ₁ (fun σ=>∃ i,J i σ) v l) (st:∀ (i:Nat) (P':Addr→Obj→Prop) (a:AV) (σ:AS) (Q:Unit→AS→Prop),l[i]?=some a→Q () (upd a σ)→WSt af w (cx.withP P') (assign tgt cx.env) a σ Q E) (j0:J 0 σ₁) (turn:∀ i a σ P',l[i]?=some a→J i σ→(∀ b o,cx.P b o→P' b o)→cf af w (cx.withP P') body (upd a σ) (rI (J (i+1)) QF) E) (fin:∀ σ,J l.length σ→QF .next σ):ForG af w cx tgt upd body QF E v σ₁
theorem wQ (ok:Ok af K cx sc n) (hfe:cx.env=cx.fenv) {tgt:Expr} {upd:AV→AS→AS} {iter:Expr} {body:List Stmt}
  (h:bZ af w cx iter σ (ForG af w cx tgt upd body QF E) E) (hs:∀ v,dF iter cx.env v=pure v):jv af w cx (.For tgt iter body [] pos) σ QF E:=fun s r=>by
 refine wpAny_For (ak (h s r) (fun v s₁ zz=>?_) fun ux ux e=>e) hs
 obtain ⟨a,σ₁,r₁,v₁,m₁,l,J,hi,st,j0,turn,fin⟩:=zz
 refine ak (hi _ _ _ r₁ v₁) (fun it s₂ zz=>?_) fun ux ux e=>e
 obtain ⟨I,T,It,e,r₂,m₂,S,hT,it0,off,go⟩:=zz
 subst e
 refine codeAny_forLoop_any (I:=fun k s'=>∃ i σ',k+i=l.length+1∧i≤l.length∧R af w cx σ' s'∧VM s.heap s'.heap∧J i σ'∧Off cx σ' I∧It i s'.heap) ?_ (l.length+1) ⟨0,σ₁,by lia,by (exact dw _),r₂,m₁.trans m₂,j0,off,it0⟩
 rintro k s₃ ⟨i,σ₃,hk,hil,r₃,m₃,j₃,off₃,it₃⟩
 obtain ⟨o₀,ho₀,nd₀,_⟩:=S.data _ _ it₃
 by_cases hi:i<l.length
 ·refine S.item i s₃ σ₃ l[i] _ _ (by simp [hi]) r₃ (hT _ ⟨i,j₃⟩) it₃ fun v h' tk hv it' hk'=>?_
  obtain ⟨r₄,m₄⟩:=r₃.off (h':=h') (tk:=tk) off₃ ho₀ nd₀ hk'
  obtain ⟨o₁,ho₁,nd₁,back⟩:=S.data _ _ it'
  have hP:∀ b o,cx.P b o→(fun b x=>cx.P b x∨(b=I∧x=o₁)) b o:=fun b o e=> .inl e
  have g₄:=r₄.guard off₃ ho₁
  refine go i l[i] _ v _ _ (by simp [hi]) (hv.mono m₄) it' ?_
  refine ak (st i (fun b x=>cx.P b x∨(b=I∧x=o₁)) l[i] σ₃ (fun ux σ'=>σ'=upd l[i] σ₃) (by simp [hi]) rfl _ v g₄ (hv.mono m₄)) (fun ux s₅ zz=>zz.use fun _ σ₅ r₅ _ m₅ q₅=>?_) fun e s' p=>qY ok.fr hfe (m₃.trans m₄) (p.lessP hP)
  subst q₅
  have m₅':=(m₃.trans m₄).trans m₅
  refine ak (turn i l[i] σ₃ _ (by simp [hi]) j₃ hP s₅ r₅) (fun f s₆ zz=>zz.use fun fa σ₆ r₆ v₆ m₆ q₆=>?_) fun e s' p=>qY ok.fr hfe m₅' (p.lessP hP)
  have mm:=m₅'.trans m₆
  have again:J (i+1) σ₆→∃ m,m<k∧∃ i σ',m+i=l.length+1∧i≤l.length∧R af w cx σ' s₆∧VM s.heap s₆.heap∧J i σ'∧Off cx σ' I∧It i s₆.heap:=fun hj =>
   ⟨k - 1,by lia,i+1,σ₆,by lia,by (exact Nat.succ_le_of_lt (by assumption)),r₆.lessP hP,mm,hj,off₃.of_guard r₆,back _ (r₆.pr I o₁ (.inr ⟨rfl,rfl⟩)).1⟩
  cases fa with
  |next=>rw [show f = .next from v₆];exact again q₆
  |cont=>rw [show f = .cont from v₆];exact again q₆
  |brk=>rw [show f = .brk from v₆];exact ⟨.next,σ₆,r₆.lessP hP,rfl,mm,q₆⟩
  |ret a=>obtain ⟨v,rfl,hv⟩:=v₆;exact ⟨.ret a,σ₆,r₆.lessP hP,⟨v,rfl,hv⟩,mm,q₆⟩
 ·have:i=l.length:=by lia
  subst this
  refine S.done s₃ σ₃ _ _ r₃ (hT _ ⟨_,j₃⟩) it₃ fun h' tk he'=>?_
  obtain ⟨r₄,m₄⟩:=r₃.off (h':=h') (tk:=tk) off₃ ho₀ nd₀ he'
  exact Du ⟨.next,σ₃,r₄,rfl,m₃.trans m₄,fin σ₃ j₃⟩
inductive Fi (af:aV) (w:World) (cx:CX) (x:Str) (body:List Stmt) (QF:AF→AS→Prop) (E:Value→AS→Prop) (v:AV) (σ₁:AS):Prop
 |mk (l:List AV) (J:Nat→AS→Prop) (hi:yC σ₁ (fun σ=>∃ i,J i σ) v l) (j0:J 0 σ₁) (turn:∀ i a σ P',l[i]?=some a→J i σ→(∀ b o,cx.P b o→P' b o)→cf af w (cx.withP P') body (σ.set x a) (rI (J (i+1)) QF) E) (fin:∀ σ,J l.length σ→QF .next σ):Fi af w cx x body QF E v σ₁
theorem CU (ok:Ok af K cx sc n) (hfe:cx.env=cx.fenv) (hh:cx.A.handled=none) {x:Str} {px:Pos} {iter:Expr} {body:List Stmt} (st:∀ (P':Addr→Obj→Prop) (a:AV) (σ:AS) (Q:Unit→AS→Prop),Q () (σ.set x a)→WSt af w (cx.withP P') (storeName cx.env x) a σ Q E)
  (h:bZ af w cx iter σ (Fi af w cx x body QF E) E) (hs:∀ v,dF iter cx.env v=pure v):jv af w cx (.For (.Name x px) iter body [] pos) σ QF E:=
 wQ ok hfe (upd:=fun a σ=>σ.set x a) (h.imp (fun v σ₁ z=>by
  obtain ⟨l,J,hi,j0,turn,fin⟩:=z
  exact ⟨l,J,fun s v E' r hv=>ak (lX hh r hi hv) (fun it s₂ ⟨I,T,It,e,r₂,m₂,S,hT,it0,off⟩=>⟨I,T,It,e,r₂,m₂,S,hT,it0,off,fun i a s v Q E ux ux ux hq=>oV (a:=()) rfl hq⟩) fun ux ux e=>e,fun i P' a σ Q ha hq s v r hv=>vE (st P' a σ Q hq s v r hv),j0,turn,fin⟩) fun ux ux e=>e) hs
theorem AD (ok:Ok af K cx sc n) (hfe:cx.env=cx.fenv) (hh:cx.A.handled=none) {x:Str} {px:Pos} {iter:Expr} {body:List Stmt} (hx:sc.names.lookup x=some .local)
  (h:bZ af w cx iter σ (Fi af w cx x body QF E) E) (hs:∀ v,dF iter cx.env v=pure v):jv af w cx (.For (.Name x px) iter body [] pos) σ QF E:=
 CU ok hfe hh (fun P' a σ Q q=>oJ (cx:=cx.withP P') (ok.withP P') hx q) h hs
theorem zg {M:Model} {s:az} {h₀:Heap} {L e:Addr} {C:Value} {X:Prop} {E':Value→az→Prop} {Q:Unit→az→Prop} (hfr:cx.A.frames=some (cx.fenv::cx.outer)) (x:XC cx h₀ s.heap L e) (es:ES (et h₀ cx.frames) L e C s.heap X)
  (hq:∀ h' a0,XC cx h₀ h' L e→h'.TracedW (et h₀ cx.frames) e C a0→F2 h' e∨X→Q () { s with heap:=h' }):wpAny M cx.A (leaving cx.fenv (.ref e)) Q E' s:=by
 unfold leaving
 refine ag (q8 (cx:={ cx with env:=cx.fenv }) hfr rfl ⟨x.1,x.2,x.3,x.4,x.5⟩ es fun h' a0 x' ht ff=>?_)
 refine zj x'.st x'.ff ht fun h'' k1 k2 k3 k4 k5=>hq h'' a0 ⟨x.fr,k1,x.new,k2,x'.up.trans fun b o hb hn=>⟨o.slots,k4 b o hb hn⟩⟩ k3 (ff.imp k5 id)
theorem cellsFrom_some:∀ (names:List (Str×iP)) (k:Nat) (acc:List (Str×Addr)) (x:Str),(acc.lookup x).isSome=true∨names.lookup x=some .cell→((cellsFrom k names acc).lookup x).isSome=true
 |[],k,acc,x,h=>by
  unfold cellsFrom
  rcases h with h|h
  ·exact h
  ·cases h
 |(y,kd)::r,k,acc,x,h=>by
  unfold cellsFrom
  split
  ·rename_i hk
   refine cellsFrom_some r _ _ x ?_
   rcases h with h|h
   ·left
    rw [b8]
    split
    ·rfl
    ·exact h
   ·rw [b8] at h
    split at h
    ·rename_i q;left;rw [b8,q];rfl
    ·exact .inr h
  ·rename_i hk
   refine cellsFrom_some r _ _ x ?_
   rcases h with h|h
   ·exact .inl h
   ·rw [b8] at h
    split at h
    ·cases h;exact absurd rfl hk
    ·exact .inr h
theorem jb:∀ (names:List (Str×iP)) (k:Nat) (acc:List (Str×Addr)) (p:Str×Addr),p∈cellsFrom k names acc→p∈acc∨(p.1,yB)∈names
 |[],k,acc,p,h=>by
  unfold cellsFrom at h
  exact .inl h
 |(y,kd)::r,k,acc,p,h=>by
  unfold cellsFrom at h
  split at h
  ·rename_i hk
   rcases jb r _ _ p h with q|q
   ·rcases aQ.mp q with q|q
    ·subst q;right
     rw [show kd = .cell by simpa using hk]
     exact .head _
    ·exact .inl q
   ·exact .inr (.tail _ q)
  ·rcases jb r _ _ p h with q|q
   ·exact .inl q
   ·exact .inr (.tail _ q)
theorem n7 {ko:Str→Option iP}:∀ (b:List (Str×Value)) (m:Str→Option Value) (x:Str),x∉b.map (·.1)→bindL ko b m x=m x
 |[],m,x,_=>rfl
 |(y,v)::r,m,x,h=>by
  unfold bindL
  rw [n7 r _ x fun q=>h (.tail _ q)]
  split
  ·show (if x=y then some v else m x)=m x
   exact if_neg fun q=>h (by rw [q];exact .head _)
  ·rfl
theorem n8 {ko:Str→Option iP}:∀ (b:List (Str×Value)) (m:Str→Option Value) (x:Str),x∉b.map (·.1)→bindC ko b m x=m x
 |[],m,x,_=>rfl
 |(y,v)::r,m,x,h=>by
  unfold bindC
  rw [n8 r _ x fun q=>h (.tail _ q)]
  split
  ·rfl
  ·show (if x=y then some v else m x)=m x
   exact if_neg fun q=>h (by rw [q];exact .head _)
theorem Bh {ko:Str→Option iP} (b:List (Str×Value)) (m:Str→Option Value) (x:Str) (v:Value) (hn:(b.map (·.1)).Nodup) (hm:(x,v)∈b) (hk:ko x=some .local):bindL ko b m x=some v:=by
 induction b generalizing m with
 |nil=>cases hm
 |cons p r ih =>
  unfold bindL
  rw [aM,jA] at hn
  rcases aQ.mp hm with e|hm
  ·subst e
   rw [n7 _ _ _ hn.1,if_pos hk,if_pos rfl]
  ·exact ih _ hn.2 hm
theorem Bi {ko:Str→Option iP} (b:List (Str×Value)) (m:Str→Option Value) (x:Str) (v:Value) (hn:(b.map (·.1)).Nodup) (hm:(x,v)∈b) (hk:ko x≠some .local):bindC ko b m x=some v:=by
 induction b generalizing m with
 |nil=>cases hm
 |cons p r ih =>
  unfold bindC
  rw [aM,jA] at hn
  rcases aQ.mp hm with e|hm
  ·subst e
   rw [n8 _ _ _ hn.1,if_neg hk,if_pos rfl]
  ·exact ih _ hn.2 hm
theorem zip_get {h:Heap}:∀ {ps:List Str} {l:List AV} {vs:List Value} {x:Str} {a:AV},iM h l vs→(ps.zip l).lookup x=some a→∃ v,(x,v)∈ps.zip vs∧VR h a v
 |[],_,_,_,_,_,e=>by simp at e
 |p::ps,[],_,_,_,_,e=>by simp at e
 |p::ps,b::l,_,x,a,⟨v,r,rfl,q1,q2⟩,e=>by
  rw [jV,b8] at e
  split at e
  ·rename_i q;cases e;rw [beq_iff_eq.mp q];exact ⟨v,.head _,q1⟩
  ·obtain ⟨u,h1,h2⟩:=zip_get q2 e
   exact ⟨u,.tail _ h1,h2⟩
structure Fn (K:Frag) (f:Addr) (sc:Scope) (body:List Stmt) (ps:List Str):Prop where
 ex:∃ oc od osl name qual params dV kV doc pm an cdv ct,K.lookup f=some ⟨oc,od,.func (fnOf name qual params body sc dV kV doc pm an cdv ct),osl⟩∧codeIn K cdv qual=true∧keepIn K (.ref f)=true ∧
  ∀ vs:List Value,vs.length=ps.length→bindArgs (fnOf name qual params body sc dV kV doc pm an cdv ct) ⟨vs,[]⟩=pure (ps.zip vs)
 nd:ps.Nodup
 kind:sc.kind = .function
 gen:sc.isGenerator=false
 co:sc.isCoroutine=false
 ks:∀ x∈ps,sc.names.lookup x=some .local∨sc.names.lookup x=some .cell
 cu:∀ p∈sc.names,p.2 = .cell→sc.names.lookup p.1=some .cell
noncomputable def CX.callee (cx:CX) (env':Env) (h:Heap):CX where
 A:=cx.A.deeper env'
 env:=env'
 fenv:=env'
 outer:=cx.fenv::cx.outer
 base:=cx.base
 P:=fun b o=>cx.P b o∨(cx.own b∧b∉cx.frames∧h.get? b=some o)
 N:=fun b m=>cx.N b m∨(b=cx.env.locals∧b∈cx.frames∧h.Ns b m)
 gens:=cx.gens
 drawn:=cx.drawn
 os:=cx.os
noncomputable def AS.enter (σ:AS) (ps:List Str) (l:List AV):AS:=⟨fun x=>(ps.zip l).lookup x,σ.hp⟩
theorem R.enter {s s₁:az} {sc':Scope} {fd:FuncData} {f:Addr} {ps:List Str} {l:List AV} {vs:List Value} (r:R af w cx σ s) (hl:iM s.heap l vs) (hlen:ps.length=l.length) (nd:ps.Nodup) (hsc:fd.scope.kind = .function)
  (hk:∀ x∈ps,fd.scope.names.lookup x=some .local∨fd.scope.names.lookup x=some .cell)
  (x:InCallC s (iK fd s.heap.objs.size f).locals (bindL (iK fd s.heap.objs.size f).kindOf (ps.zip vs) fun ux=>none) (iK fd s.heap.objs.size f).cells (bindC (iK fd s.heap.objs.size f).kindOf (ps.zip vs) fun ux=>none) s₁) :
  R af w (cx.callee (iK fd s.heap.objs.size f) s.heap) (σ.enter ps l) s₁:=by
 have L0:(iK fd s.heap.objs.size f).locals=s.heap.objs.size:=rfl
 have fr0:(iK fd s.heap.objs.size f).frame=some s.heap.objs.size:=rfl
 have keep:=x.toInCall.keep
 have old:∀ (b:Nat) o,s.heap.get? b=some o→b<s.heap.objs.size:=fun b o e=>bq e
 have hnb:∀ b:Nat,s.heap.objs.size≤b→cx.base.get? b=none:=fun b hb=>by
  cases q:cx.base.get? b with
  |none=>rfl
  |some o=>have:=old _ _ (r.stay b o q);lia
 have frOld:∀ b:Nat,b∈cx.frames→b<s.heap.objs.size:=fun b hb=>by obtain ⟨_,o,h1,_⟩:=r.ff.mem hb;exact old _ _ h1
 have above:∀ y (c:Nat),(iK fd s.heap.objs.size f).cells.lookup y=some c→s.heap.objs.size<c:=fun y c e=>x.above y c (mem_of_lookup e)
 have own':∀ a:Nat,(cx.callee (iK fd s.heap.objs.size f) s.heap).own a→s.heap.objs.size≤a:=by
  rintro a (e|⟨y,e⟩)
  ·rw [show a=s.heap.objs.size from e];exact aU _
  ·exact b7 (above y a e)
 have vm:VM s.heap s₁.heap:=VM.of_keeps keep
 have names:(ps.zip vs).map (·.1)=ps:=by
  rw [List.map_fst_zip]
  rw [hl.length];(exact gR (by assumption))
 have nd':((ps.zip vs).map (·.1)).Nodup:=by rw [names];exact nd
 obtain ⟨h₁,tk,hs₁⟩:=x.toInCall.same
 have ffk:s₁.heap.FunFrames cx.base (cx.fenv::cx.outer):=r.ff.of_keeps fun b o e ux=>⟨o,keep b o e,rfl⟩
 refine ⟨fun b o e=>keep b o (r.stay b o e),?_,⟨_,x.toInCall.ns⟩,fun y a e=>?_,fun b o e=>?_,fun b m e=>?_,fun a ao e=>?_,fun a e=>?_,fun y c e=>?_,fun e he hf=>?_,by rw [hs₁];exact r.gens,by rw [hs₁];exact r.drawn,by rw [hs₁];exact r.os⟩
 ·obtain ⟨o,h1,h2⟩:=dB x.toInCall.ns
  refine ⟨?_,⟨s.heap.objs.size,o,fr0,hnb _ (aU _),h1,h2⟩,ffk⟩
  show fd.scope.kind ≠ .module
  rw [hsc];decide
 ·obtain ⟨v,hm,hv⟩:=zip_get hl e
  refine ⟨v,?_,hv.mono vm⟩
  have hy:y∈ps:=by rw [← names];exact bx.mpr ⟨_,hm,rfl⟩
  unfold ei
  rcases hk y hy with q|q
  ·have hko:(iK fd s.heap.objs.size f).kindOf y=some .local:=q
   show match (iK fd s.heap.objs.size f).kindOf y with|some .local=>_|some .cell=>_|some .free=>_|_=>False
   rw [hko]
   exact ⟨_,x.toInCall.ns,Bh _ _ _ _ nd' hm hko⟩
  ·have hko:(iK fd s.heap.objs.size f).kindOf y=some .cell:=q
   show match (iK fd s.heap.objs.size f).kindOf y with|some .local=>_|some .cell=>_|some .free=>_|_=>False
   rw [hko]
   obtain ⟨c,hc⟩:=bU.mp (cellsFrom_some fd.scope.names (s.heap.objs.size+1) [] y (.inr q))
   obtain ⟨o,h1,h2⟩:=x.cell y c hc
   exact ⟨c,o,hc,h1,by rw [h2,Bi _ _ _ _ nd' hm (by rw [hko];decide)]⟩
 ·have:s.heap.get? b=some o∧b∉cx.frames:=e.elim (fun e=>r.pr b o e) fun ⟨_,q,q'⟩=>⟨q',q⟩
  refine ⟨keep b o this.1,fun hm=>?_⟩
  rcases aQ.mp (show b∈s.heap.objs.size::cx.frames from hm) with q|q
  ·have lt:=old _ _ this.1;rw [q] at lt;exact absurd lt (ba _)
  ·exact this.2 q
 ·have:s.heap.Ns b m∧b∈cx.frames:=e.elim (fun e=>r.pn b m e) fun ⟨_,q,q'⟩=>⟨q',q⟩
  exact ⟨this.1.keeps keep,Bt _ this.2⟩
 ·obtain ⟨p,q1,q2,q3,q4⟩:=r.ob a ao e
  obtain ⟨o,ho,_⟩:=p.there
  have lt:=old _ _ ho
  refine ⟨p.at vm fun o=>keep a o,q1,fun o e'=>e'.elim (q2 o) fun ⟨q,_⟩=>q3 q,fun q=>by have:=own' a q;lia,fun e he hf=>?_⟩
  rcases aQ.mp he with q|q
  ·subst q;injection (fr0.symm.trans hf) with hf;rw [← hf] at lt;exact absurd lt (ba _)
  ·exact q4 e q hf
 ·have:=own' a e
  refine ⟨hnb a this,fun o e'=>?_,fun m e'=>?_⟩
  ·have:s.heap.get? a=some o:=e'.elim (fun e=>(r.pr a o e).1) fun ⟨_,_,q'⟩=>q'
   have:=old _ _ this;lia
  ·have:s.heap.Ns a m:=e'.elim (fun e=>(r.pn a m e).1) fun ⟨_,_,q'⟩=>q'
   obtain ⟨o,h1,_⟩:=dB this
   have:=old _ _ h1;lia
 ·have lt:=above y c e
  refine ⟨fun q=>?_,?_,fun e he hf=>?_⟩
  ·rw [show c=s.heap.objs.size from q] at lt;exact absurd lt (ba _)
  ·obtain ⟨o,h1,h2⟩:=x.cell y c e
   exact ⟨o,_,h1,h2⟩
  ·rcases aQ.mp he with q|q
   ·subst q;injection (fr0.symm.trans hf) with hf;rw [← hf] at lt;exact absurd lt (ba _)
   ·have:=frOld c (bP.mpr ⟨e,q,hf⟩);lia
 ·have:=frOld s.heap.objs.size (bP.mpr ⟨e,he,hf⟩);(exact absurd (by assumption) (ba _))
theorem R.leave {s s₂:az} {env':Env} {σ₂:AS} (r:R af w cx σ s) (r₂:R af w (cx.callee env' s.heap) σ₂ s₂) (vm:VM s.heap s₂.heap):R af w cx ⟨σ.loc,σ₂.hp⟩ s₂:=by
 have ownIn:∀ a o,cx.own a→s.heap.get? a=some o→a∉cx.frames→s₂.heap.get? a=some o:=fun a o h1 h2 h3=>(r₂.pr a o (.inr ⟨h1,h3,h2⟩)).1
 have nsIn:∀ m,s.heap.Ns cx.env.locals m→s₂.heap.Ns cx.env.locals m:=fun m hm=>by
  by_cases hf:cx.env.locals∈cx.frames
  ·exact (r₂.pn _ m (.inr ⟨rfl,hf,hm⟩)).1
  ·obtain ⟨o,es,ep,h1,h2⟩:=hm
   exact ⟨o,es,ep,ownIn _ _ (.inl rfl) h1 hf,h2⟩
 have cellIn:∀ x c o,cx.env.cells.lookup x=some c→s.heap.get? c=some o→s₂.heap.get? c=some o:=fun x c o h1 h2 =>
  ownIn c o (.inr ⟨x,h1⟩) h2 fun hm=>by obtain ⟨e,he,hf⟩:=dX hm;exact (r.cel x c h1).2.2 e he hf
 refine ⟨r₂.stay,r₂.ff.2.2,?_,fun x v e=>?_,fun b o e=>?_,fun b m e=>?_,fun a ao e=>?_,r.own,fun x c e=>?_,r.oth,r₂.gens,r₂.drawn,r₂.os⟩
 ·obtain ⟨m,hm⟩:=r.ns;exact ⟨m,nsIn m hm⟩
 ·obtain ⟨u,l,b⟩:=r.loc x v e
  refine ⟨u,?_,b.mono vm⟩
  unfold ei at l ⊢
  split at l
  ·obtain ⟨m,a1,a2⟩:=l;exact ⟨m,nsIn m a1,a2⟩
  ·obtain ⟨c,o,a1,a2,a3⟩:=l;exact ⟨c,o,a1,cellIn x c o a1 a2,a3⟩
  ·obtain ⟨c,o,a1,a2,a3⟩:=l;exact ⟨c,o,a1,cellIn x c o a1 a2,a3⟩
  ·exact l
 ·exact ⟨(r₂.pr b o (.inl e)).1,(r.pr b o e).2⟩
 ·exact ⟨(r₂.pn b m (.inl e)).1,(r.pn b m e).2⟩
 ·obtain ⟨p,q1,q2,q3,q4⟩:=r₂.ob a ao e
  refine ⟨p,q1,fun o e'=>q2 o (.inl e'),fun hb=>?_,fun e he hf=>q4 e (.tail _ he) hf⟩
  by_cases hf:a∈cx.frames
  ·obtain ⟨en,he,hf⟩:=dX hf
   exact q4 en (.tail _ he) hf
  ·rcases hb with q|⟨x,q⟩
   ·obtain ⟨m,hm⟩:=r.ns
    obtain ⟨o,h1,_⟩:=dB hm
    exact q2 o (.inr ⟨.inl q,hf,by rw [q];exact h1⟩)
   ·obtain ⟨_,⟨o,v,c1,_⟩,_⟩:=r.cel x a q
    exact q2 o (.inr ⟨.inr ⟨x,q⟩,hf,c1⟩)
 ·obtain ⟨p,⟨o,v,c1,c2⟩,c3⟩:=r.cel x c e
  exact ⟨p,⟨o,v,cellIn x c o e c1,c2⟩,c3⟩
theorem sj {s s₀ s':az} {σ₂:AS} {env':Env} {L e:Addr} {h':Heap} {C a0:Value} (r:R af w cx σ s) (hx:∃ L,cx.fenv.frame=some L) (hf:env'.frame=some L) (hlo:env'.locals=L) (r₂:R af w (cx.callee env' s.heap) σ₂ s₀) (vm:VM s.heap s₀.heap)
  (x:XC (cx.callee env' s.heap) s₀.heap h' L e) (t:h'.TracedW (et s₀.heap (cx.callee env' s.heap).frames) e C a0) (ff:F2 h' e∨∃ σ₁,E .none σ₁) (cn:C ≠ .none) (hs:s'={ s₀ with heap:=h',toks:=s'.toks }) (q:E C ⟨σ.loc,σ₂.hp⟩):dh af w cx s E (.ref e) s':=by
 obtain ⟨Lc,hLc⟩:=hx
 have frs:(cx.callee env' s.heap).frames=L::cx.frames:=by
  show ((env'::cx.fenv::cx.outer).filterMap (·.frame))=_
  rw [List.filterMap_cons,hf]
  rfl
 rw [frs] at t
 have x1:=x.st;have x2:=x.new;have x4:=x.ff;have x5:=x.up
 rw [frs] at x1 x2 x4
 have r₃:=r.leave r₂ vm
 have own':(cx.callee env' s.heap).own L:=.inl hlo.symm
 obtain ⟨o1,o2,o3⟩:=r₂.own L own'
 have off:Off cx ⟨σ.loc,σ₂.hp⟩ L:=by
  have fr:L∉cx.frames:=fun hm=>by obtain ⟨en,he,hf'⟩:=dX hm;exact r₂.oth en he (by rw [hf'];exact congrArg some hlo.symm)
  refine ⟨o1,fun o e'=>o2 o (.inl e'),fun ao e'=>(r₂.ob L ao e').2.2.2.1 own',fun hb=>?_,fr⟩
  rcases hb with q|⟨y,q⟩
  ·obtain ⟨m,hm⟩:=r.ns
   obtain ⟨o,h1,_⟩:=dB hm
   exact o2 o (.inr ⟨.inl q,fr,by rw [q];exact h1⟩)
  ·obtain ⟨_,⟨o,v,c1,_⟩,_⟩:=r.cel y L q
   exact o2 o (.inr ⟨.inr ⟨y,q⟩,fr,c1⟩)
 obtain ⟨m,hm⟩:=r₂.ns
 rw [show (cx.callee env' s.heap).env.locals=L from hlo] at hm
 obtain ⟨o₀,es,ep,g0,g1,g2⟩:=hm
 obtain ⟨sl,gL⟩:=x5 L o₀ g0 (by intro vs q;rw [g1] at q;cases q)
 obtain ⟨h₀',hh₀⟩:∃ h₀':Heap,h₀'=s₀.heap.update L (fun ux=>{ o₀ with slots:=sl }):=⟨_,rfl⟩
 have gL':h₀'.get? L=some { o₀ with slots:=sl }:=by
  rw [hh₀];exact cg _ g0 (Heap.get?_some_iff.mp gL).2
 have gO:∀ b,b≠L→h₀'.get? b=s₀.heap.get? b:=fun b hb=>by rw [hh₀];exact aP _ _ (bl hb)
 obtain ⟨r₄,vm₄⟩:=r₃.off (h':=h₀') (tk:=s₀.toks) off g0 (by intro xs n q;rw [g1] at q;cases q) fun b o hb e'=>(gO b hb).trans e'
 obtain ⟨oe,vs,T,oT,ts,he,hcls,hd,h1,hnT,hTe,hT,hdT,h3⟩:=t
 have eL:e≠L:=fun q=>by subst q;rw [gL] at he;injection he with he;subst he;rw [show ({ o₀ with slots:=sl }:Obj).data=_ from g1] at hd;cases hd
 have TL:T≠L:=fun q=>by subst q;rw [gL] at hT;injection hT with hT;subst hT;rw [show ({ o₀ with slots:=sl }:Obj).data=_ from g1] at hdT;cases hdT
 have hid:∀ b o,(et h₀' cx.frames).get? b=some o→h'.get? b=some o:=fun b o e'=>by
  have e1:=ut _ e'
  have nf:b∉cx.frames:=fun hm=>by rw [Ex _ hm] at e';cases e'
  by_cases hb:b=L
  ·subst hb;rw [gL'] at e1;rw [← e1];exact gL
  ·exact x1 b o (hideAll_get _ ((gO b hb).symm.trans e1) fun hm=>by
    rcases aQ.mp hm with q|q
    ·exact hb q
    ·exact nf q)
 have hidN:∀ b,b≠L→(et s₀.heap (L::cx.frames)).get? b=none→(et h₀' cx.frames).get? b=none:=fun b hb e'=>by
  cases q:(et h₀' cx.frames).get? b with
  |none=>rfl
  |some o =>
   have e1:=ut _ q
   have nf:b∉cx.frames:=fun hm=>by rw [Ex _ hm] at q;cases q
   rw [hideAll_get _ ((gO b hb).symm.trans e1) fun hm=>by
    rcases aQ.mp hm with q|q
    ·exact hb q
    ·exact nf q] at e'
   cases e'
 refine ⟨e,C,_,{ s₀ with heap:=h₀',toks:=s₀.toks },Lc,rfl,r₄,by rw [hs],?_,⟨.inr (.inl ⟨a0,oe,vs,T,oT,ts,?_,hcls,hd,h1,hidN T TL hnT,hTe,?_,hdT,h3⟩),by rw [hs];exact ff,cn⟩,vm.trans vm₄,q⟩
 ·have heq:s'.heap=h':=by rw [hs]
  rw [heq]
  refine ⟨hLc,hid,hidN e eL x2,?_,fun b o hb hn=>?_⟩
  ·have:∀ l:List Env,(∀ en∈l,∀ a,en.frame=some a→a∈cx.frames)→h'.FunFrames (et s₀.heap (L::cx.frames)) l→h'.FunFrames (et h₀' cx.frames) l:=by
    intro l
    induction l with
    |nil=>exact fun ux ux=>trivial
    |cons en l ih =>
     rintro hm ⟨hk,⟨a,o,hf,hn,ho,hd⟩,hr⟩
     exact ⟨hk,⟨a,o,hf,Ex _ (hm en (.head _) a hf),ho,hd⟩,ih (fun e he=>hm e (.tail _ he)) hr⟩
   exact this _ (fun en he a ha=>bP.mpr ⟨en,he,ha⟩) x4.2.2
  ·by_cases hb':b=L
   ·subst hb';rw [gL'] at hb;injection hb with hb;subst hb;exact ⟨_,gL⟩
   ·exact x5 b o ((gO b hb').symm.trans hb) hn
 ·rw [hs];exact he
 ·rw [hs];exact hT
noncomputable def gd (af:aV) (w:World) (cx:CX) (f:Value) (l:List AV) (σ:AS) (Q:AV→AS→Prop) (E:Value→AS→Prop):Prop:=
 ∀ s vs,R af w cx σ s→iM s.heap l vs→wpAny (model af w) cx.A (call f vs) (dU af w VR cx s Q) (dh af w cx s E) s
noncomputable def lI:AF→AV | .ret v=>v|_=> .none
noncomputable def Fo (af:aV) (w:World) (cx:CX) (f:Value) (l:List AV) (σ:AS) (Q:AV→AS→Prop) (E:Value→AS→Prop):Prop:=
 ∀ s vs,R af w cx σ s→iM s.heap l vs→rn (model af w) cx.A (.call f ⟨vs,[]⟩) (fun r s'=>match r with | .ok (.ret v)=>dU af w VR cx s Q v s' | .ok _=>False | .error e=>dh af w cx s E e s') s
theorem Fo.cl {f:Value} {l:List AV} (h:Fo af w cx f l σ Q E):gd af w cx f l σ Q E:=fun s vs r hv=>wpAny_call (h s vs r hv)
noncomputable def jq (K:Frag) (f:Addr):Option (Value×Str):=match K.lookup f with
 |some ⟨_,_,.func fd,_⟩=>some (fd.code,fd.qualname)
 |_=>none
theorem A0 (ok:Ok af K cx sc (n+1)) {f:Addr} {sc':Scope} {body:List Stmt} {ps:List Str} {l:List AV} (F:Fn K f sc' body ps) (hlen:ps.length=l.length)
  (h:∀ cx',Ok af K cx' sc' n→cx'.env=cx'.fenv→cx'.A.handled=cx.A.handled→(∀ v q,jq K f=some (v,q)→cx'.env.code=v∧cx'.env.qual=q++".<locals>.")→(∀ b o,cx.P b o→cx'.P b o)→cf af w cx' body (σ.enter ps l) (fun fl σ₂=>Q (lI fl) ⟨σ.loc,σ₂.hp⟩) (fun C σ₂=>E C ⟨σ.loc,σ₂.hp⟩)) :
  Fo af w cx (.ref f) l σ Q E:=by
 intro s vs r hv
 obtain ⟨oc,od,osl,name,qual,params,dV,kV,doc,pm,an,cdv,ct,hlk,hcd,_,hb⟩:=F.ex
 have KX:=ok.glo.KX
 have X:K.In s.heap:=fun a o e=>r.stay a o (KX a o e)
 have hvl:vs.length=ps.length:=by rw [hv.length,hlen]
 refine codeAny_call_cells (fd:=fnOf name qual params body sc' dV kV doc pm an cdv ct) (body:=body) (binds:=ps.zip vs) (by have:=ok.depth;lia) (X _ _ hlk) rfl (ok.glo.nolimit.keeps r.stay) (codeRec_of X hcd) rfl (hb vs hvl) rfl ?_ ?_ F.co F.gen F.kind
 ·intro y hy
  rcases F.ks y.1 ((List.of_mem_zip hy).1) with q|q
  ·exact .inl q
  ·exact .inr ⟨q,cellsFrom_some _ _ _ _ (.inr q)⟩
 ·intro s₁ x
  have r₁:=r.enter (sc':=sc') hv hlen F.nd (fd:=fnOf name qual params body sc' dV kV doc pm an cdv ct) F.kind F.ks x
  have ok':Ok af K (cx.callee (iK (fnOf name qual params body sc' dV kV doc pm an cdv ct) s.heap.objs.size f) s.heap) sc' n:=
   ⟨ok.glo,by show (cx.A.frames.map _)=_;rw [ok.fr];rfl,rfl,F.kind,rfl,rfl,rfl,F.gen,F.co,rfl,rfl,F.kind,by have:=ok.depth;show cx.A.depth+1+4 * n+140<_;lia,by have:=ok.units;show cx.A.units+3+16 * n+200<_;lia,fun y z c h1 h2=>name_of_addr x.apart (mem_of_lookup h1) (mem_of_lookup h2),fun y c h1=> .inl (by
    rcases jb _ _ _ _ (mem_of_lookup h1) with q|q
    ·cases q
    ·exact F.cu _ q rfl),fun y h1=>cellsFrom_some _ _ _ _ (.inr h1)⟩
  have vm:VM s.heap s₁.heap:=VM.of_keeps x.toInCall.keep
  refine ak (h _ ok' rfl rfl (fun v q e=>by unfold jq at e;rw [hlk] at e;cases e;exact ⟨rfl,rfl⟩) (fun ux ux q=> .inl q) s₁ r₁) (fun fl s₂ zz=>zz.use fun a σ₂ r₂ v₂ m₂ q₂=>?_) fun v s₂ he=>?_
  ·have r₃:=r.leave r₂ (vm.trans m₂)
   cases a with
   |next=>rw [show fl = .next from v₂];exact ⟨AV.none,_,r₃,jC,vm.trans m₂,q₂⟩
   |brk=>rw [show fl = .brk from v₂];exact ⟨AV.none,_,r₃,jC,vm.trans m₂,q₂⟩
   |cont=>rw [show fl = .cont from v₂];exact ⟨AV.none,_,r₃,jC,vm.trans m₂,q₂⟩
   |ret a=>obtain ⟨v,rfl,hv'⟩:=v₂;exact ⟨_,_,r₃,hv',vm.trans m₂,q₂⟩
  ·obtain ⟨e,C,σ₂,s₀,L,rfl,r₂,hs,x₂,es,m₂,q₂⟩:=he
   have hL:L=s.heap.objs.size:=by
    have:=x₂.fr
    injection ((show some L=some s.heap.objs.size from this.symm.trans rfl))
   refine zg ok'.fr x₂ es fun h' a0 x₃ t ff=>?_
   have:∃ L,cx.fenv.frame=some L:=by obtain ⟨_,⟨L,o,hf,_⟩,_⟩:=r.ff;exact ⟨L,hf⟩
   exact sj r this (by rw [hL];rfl) (by rw [hL];rfl) r₂ (vm.trans m₂) x₃ t (ff.imp id fun ⟨_,q⟩=>⟨_,q⟩) es.3 (by rw [hs]) q₂
theorem A1 (ok:Ok af K cx sc (n+1)) {f:Addr} {sc':Scope} {body:List Stmt} {ps:List Str} {l:List AV} (F:Fn K f sc' body ps) (hlen:ps.length=l.length)
  (h:∀ cx',Ok af K cx' sc' n→cx'.env=cx'.fenv→cx'.A.handled=cx.A.handled→(∀ v q,jq K f=some (v,q)→cx'.env.code=v∧cx'.env.qual=q++".<locals>.")→cf af w cx' body (σ.enter ps l) (fun fl σ₂=>Q (lI fl) ⟨σ.loc,σ₂.hp⟩) (fun C σ₂=>E C ⟨σ.loc,σ₂.hp⟩)) :
  Fo af w cx (.ref f) l σ Q E:=A0 ok F hlen fun cx' a b c d ux=>h cx' a b c d
theorem DJ (ok:Ok af K cx sc (n+1)) {f:Addr} {sc':Scope} {body:List Stmt} {ps:List Str} {l:List AV} (F:Fn K f sc' body ps) (hlen:ps.length=l.length)
  (h:∀ cx',Ok af K cx' sc' n→cx'.env=cx'.fenv→cx'.A.handled=cx.A.handled→cf af w cx' body (σ.enter ps l) (fun fl σ₂=>Q (lI fl) ⟨σ.loc,σ₂.hp⟩) (fun C σ₂=>E C ⟨σ.loc,σ₂.hp⟩)) :
  Fo af w cx (.ref f) l σ Q E:=A1 ok F hlen fun cx' a b c ux=>h cx' a b c
theorem cl_fn (ok:Ok af K cx sc (n+1)) {f:Addr} {sc':Scope} {body:List Stmt} {ps:List Str} {l:List AV} (F:Fn K f sc' body ps) (hlen:ps.length=l.length)
  (h:∀ cx',Ok af K cx' sc' n→cx'.env=cx'.fenv→cx'.A.handled=cx.A.handled→cf af w cx' body (σ.enter ps l) (fun fl σ₂=>Q (lI fl) ⟨σ.loc,σ₂.hp⟩) (fun C σ₂=>E C ⟨σ.loc,σ₂.hp⟩)) :
  gd af w cx (.ref f) l σ Q E:=(DJ ok F hlen h).cl
noncomputable abbrev fN (af:aV) (w:World) (cx:CX) (pos:Pos) (es:List Expr) (σ:AS) (Q:List AV→AS→Prop) (E:Value→AS→Prop):Prop:=Wp af w iM cx (spliced (db pos (bv es cx.env))) σ Q E
theorem aN {Q:List AV→AS→Prop} (h:Q [] σ):fN af w cx pos [] σ Q E:=fun s r=>args_nil (dT (rel:=iM) (b:=[]) r rfl h)
theorem Dh {e:Expr} {rest:List Expr} {Q:List AV→AS→Prop} (h:bZ af w cx e σ (fun a σ₁=>fN af w cx pos rest σ₁ (fun l σ₂=>Q (a::l) σ₂) E) E) (he:∀ env,bv (e::rest) env=(false,eval e env)::bv rest env:=by intro env;rfl) :
  fN af w cx pos (e::rest) σ Q E:=fun s r=>by
 refine args_cons (ak (h s r) (fun v s₁ zz=>zz.use fun a σ₁ r₁ v₁ m₁ q₁=>?_) fun ux ux e=>e) (he _)
 exact ak (q₁ s₁ r₁) (fun vs s₂ zz=>zz.use fun l σ₂ r₂ v₂ m₂ q₂=>⟨a::l,σ₂,r₂,⟨v,vs,rfl,v₁.mono m₂,v₂⟩,m₁.trans m₂,q₂⟩) fun ux ux e=>e.mono m₁
theorem eK {M:Model} {A:dM} {s:az} {E:Value→az→Prop} {f:Value} {a:List (Bool×Sem Value)} {Q:Args→az→Prop} (hp:a.any (·.1)=false) (h:wpAny M A (spliced a) (fun vs s'=>Q ⟨vs,[]⟩ s') E s):wpAny M A (evalArgs f true a []) Q E s:=by
 cases a with
 |nil =>
  unfold evalArgs
  show wpAny M A (spliced [] >>= _) Q E s
  refine ag (ak h (fun vs s' h'=>ag (aB ?_)) fun ux ux x=>x)
  refine dq ?_
  exact ag (aB (ag (aB (aB h'))))
 |cons x rest =>
  obtain ⟨b,x⟩:=x
  cases b with
  |true=>cases hp
  |false=>exact evalArgs_plain h
theorem CY (ok:Ok af K cx sc n) {func:Expr} {args:List Expr} {f:Addr} (hk:keepIn K (.ref f)=true) (h:bZ af w cx func σ (fun a σ₁=>a = .ref f∧fN af w cx pos args σ₁ (fun l σ₂=>gd af w cx (.ref f) l σ₂ Q E) E) E)
  (he:∀ env,eval (.Call func args [] pos) env=(do kK pos (← eval func env) [] (db pos (bv args env)) (ju pos (eN [] env))):=by intro env;rfl) (hpl:∀ env,(db pos (bv args env)).any (·.1)=false:=by intro env;rfl) :
  bZ af w cx (.Call func args [] pos) σ Q E:=fun s r=>by
 refine Call_ (ak (h s r) (fun v s₁ zz=>zz.use fun a σ₁ r₁ v₁ m₁ ⟨ha,q₁⟩=>?_) fun ux ux e=>e) (he _)
 subst ha
 rw [show v = .ref f from v₁]
 have KX:=ok.glo.KX
 refine callWith_of (P:=fun h=>K.In h) (by rw [hpl];rfl) (fun h X=>keeps_K hk h X) ?_
 have key:wpAny (model af w) cx.A (spliced (db pos (bv args cx.env))) (fun vs s₂=>K.In s₂.heap∧wpAny (model af w) cx.A (call (.ref f) ([]++vs)) (dU af w VR cx s Q) (dh af w cx s E) s₂) (dh af w cx s E) s₁:=by
  refine ak (q₁ s₁ r₁) (fun vs s₂ zz=>zz.use fun l σ₂ r₂ v₂ m₂ q₂=>⟨fun a o e=>r₂.stay a o (KX a o e),?_⟩) fun ux ux e=>e.mono m₁
  exact ak (q₂ s₂ vs r₂ v₂) (fun ux ux p=>p.mono (m₁.trans m₂)) fun ux ux e=>e.mono (m₁.trans m₂)
 exact eK (hpl _) key
theorem DV {h:Heap} {v:Value}:VR h (.raw v) v:=rfl
theorem kC (ok:Ok af K cx sc n) {x:Str} {u:Value} (hx:sc.names.lookup x=some .globalImplicit) (e:nsIn K bk x=some none) (hn:x≠"__name__") (hb:fK x=some u) (h:Q (.raw u) σ) (hd:(x == ("__debug__":Str))=false:=by decide) :
  bZ af w cx (.Name x pos) σ Q E:=fun s r=>by
 have hk:cx.env.scope.kind = .function:=by rw [ok.scope];exact ok.kind
 obtain ⟨mg,hg⟩:=ok.glo.g
 obtain ⟨mb,hm,hbt⟩:=ok.glo.b
 exact Name_function_global hk (by unfold tR;rw [ok.scope];exact hx) (loadGlobal_builtin (by rw [ok.glob];exact hg.keeps r.stay) (mg_none_of ok.glo.KX hg e) (by rw [ok.bi];exact hm.keeps r.stay) ((hbt x hn).trans hb) (dT r DV h)) hd
theorem AH {func:Expr} {args:List Expr} {id:String} (h:bZ af w cx func σ (fun a σ₁=>a = .raw (.builtin id)∧fN af w cx pos args σ₁ (fun l σ₂=>gd af w cx (.builtin id) l σ₂ Q E) E) E)
  (he:∀ env,eval (.Call func args [] pos) env=(do kK pos (← eval func env) [] (db pos (bv args env)) (ju pos (eN [] env))):=by intro env;rfl) (hpl:∀ env,(db pos (bv args env)).any (·.1)=false:=by intro env;rfl) :
  bZ af w cx (.Call func args [] pos) σ Q E:=fun s r=>by
 refine Call_ (ak (h s r) (fun v s₁ zz=>zz.use fun a σ₁ r₁ v₁ m₁ ⟨ha,q₁⟩=>?_) fun ux ux e=>e) (he _)
 subst ha
 rw [show v = .builtin id from v₁]
 refine PySem.Calls.callWith_builtin (hpl _) (eK (hpl _) ?_)
 refine ak (q₁ s₁ r₁) (fun vs s₂ zz=>zz.use fun l σ₂ r₂ v₂ m₂ q₂=>?_) fun ux ux e=>e.mono m₁
 exact ak (q₂ s₂ vs r₂ v₂) (fun ux ux p=>p.mono (m₁.trans m₂)) fun ux ux e=>e.mono (m₁.trans m₂)
theorem AE {func:Expr} {args:List Expr} {T:String} (h:bZ af w cx func σ (fun a σ₁=>a = .raw (.type T)∧fN af w cx pos args σ₁ (fun l σ₂=>gd af w cx (.type T) l σ₂ Q E) E) E)
  (he:∀ env,eval (.Call func args [] pos) env=(do kK pos (← eval func env) [] (db pos (bv args env)) (ju pos (eN [] env))):=by intro env;rfl) (hpl:∀ env,(db pos (bv args env)).any (·.1)=false:=by intro env;rfl) :
  bZ af w cx (.Call func args [] pos) σ Q E:=fun s r=>by
 refine Call_ (ak (h s r) (fun v s₁ zz=>zz.use fun a σ₁ r₁ v₁ m₁ ⟨ha,q₁⟩=>?_) fun ux ux e=>e) (he _)
 subst ha
 rw [show v = .type T from v₁]
 refine PyProof.Rows.callWith_type (hpl _) (eK (hpl _) ?_)
 refine ak (q₁ s₁ r₁) (fun vs s₂ zz=>zz.use fun l σ₂ r₂ v₂ m₂ q₂=>?_) fun ux ux e=>e.mono m₁
 exact ak (q₂ s₂ vs r₂ v₂) (fun ux ux p=>p.mono (m₁.trans m₂)) fun ux ux e=>e.mono (m₁.trans m₂)
theorem ke {h:Heap} {a:AV} {vs:List Value} (x:iM h [a] vs):∃ v,vs=[v]∧VR h a v:=by
 obtain ⟨v,r,e,p,q⟩:=x
 rw [show r=[] from q] at e
 exact ⟨v,e,p⟩
theorem r5 {h:Heap} {a b:AV} {vs:List Value} (x:iM h [a,b] vs):∃ v u,vs=[v,u]∧VR h a v∧VR h b u:=by
 obtain ⟨v,r,e,p,q⟩:=x
 obtain ⟨u,rfl,q'⟩:=ke q
 exact ⟨v,u,e,p,q'⟩
theorem iJ {a:Addr} {l:List AV} (hl:σ.lst a l) (hf:(l.length:Int)<2 ^ 63) (h:Q (.int l.length) σ):gd af w cx (.builtin "len") [.ref a] σ Q E:=fun s vs r hv=>by
 obtain ⟨v,rfl,q⟩:=ke hv
 rw [show v = .ref a from q]
 obtain ⟨us,p,q⟩:=r.lst hl
 have:(us.toArray.size:Int)=l.length:=by rw [cm,q.length]
 refine call_len_list p (by lia) ?_
 rw [this]
 exact j8 r cQ h
theorem ER {a b:Int} (hh:cx.A.handled=none) (h:Q (.int (min a b)) σ):gd af w cx (.builtin "min") [.int a,.int b] σ Q E:=fun s vs r hv=>by
 obtain ⟨v,u,rfl,⟨t,rfl⟩,⟨t',rfl⟩⟩:=r5 hv
 refine min_two_ints hh fun h' tk k=>⟨.int (min a b),σ,r.grow k,?_,VM.of_keeps k,h⟩
 split
 ·rw [Int.min_eq_right (by lia)];exact cQ
 ·rw [Int.min_eq_left (by lia)];exact cQ
theorem AY {a b:Int} (hh:cx.A.handled=none) (h:Q (.int (max a b)) σ):gd af w cx (.builtin "max") [.int a,.int b] σ Q E:=fun s vs r hv=>by
 obtain ⟨v,u,rfl,⟨t,rfl⟩,⟨t',rfl⟩⟩:=r5 hv
 refine max_two_ints hh fun h' tk k=>⟨.int (max a b),σ,r.grow k,?_,VM.of_keeps k,h⟩
 split
 ·rw [Int.max_eq_right (by lia)];exact cQ
 ·rw [Int.max_eq_left (by lia)];exact cQ
theorem cE (h:Heap):h.get? h.objs.size=none:=by
 cases q:h.get? h.objs.size with
 |none=>rfl
 |some o=>exact absurd (bq q) (ba _)
theorem gP {a:Int} (h:∀ x,σ.hp x=none→Q (.ref x) (σ.put x (.range 0 a 1))):gd af w cx (.type "range") [.int a] σ Q E:=fun s vs r hv=>by
 obtain ⟨v,rfl,⟨t,rfl⟩⟩:=ke hv
 refine call_range_1 ?_
 refine ⟨.ref _,_,r.new (ao:=.range 0 a 1) (cE _) (fun b o e=>aq _ e) ⟨_,_,_,aS _ rfl⟩,di,VM.of_keeps fun b o e=>aq _ e,h _ ?_⟩
 cases q:σ.hp s.heap.objs.size with
 |none=>rfl
 |some ao=>exact absurd q ((Off.new r (cE _)).hp ao)
theorem u2 (ok:Ok af K cx sc n) {i:Int} {c:AV} {cv:Value} {b:Bool} (hc:∀ h v,VR h c v→v=cv) (e:kitOne K (.type "int") cv=some b) (h:Q (.bool b) σ):gd af w cx (.builtin "isinstance") [.int i,c] σ Q E:=fun s vs r hv=>by
 obtain ⟨v,u,rfl,⟨t,rfl⟩,q⟩:=r5 hv
 rw [hc _ _ q]
 exact kia_one kitx_int (fun a o e=>r.stay a o (ok.glo.KX a o e)) trivial e (by simp) fun tk=>j8 r dk h
theorem fU {elts:List Expr} {k:Nat} (h:fN af w cx pos elts σ (fun l σ₁=>l.length≤aH∧Q (.tup l) σ₁) E):bZ af w cx (.Tuple elts k pos) σ Q E:=fun s r=>by
 refine Tuple_ (ak (h s r) (fun vs s₁ zz=>zz.use fun l σ₁ r₁ v₁ m₁ ⟨hl,q₁⟩=>?_) fun ux ux e=>e)
 have kp:∀ b o,s₁.heap.get? b=some o→(s₁.heap.push { cls:=.type "tuple",data:=.seq vs.toArray }).get? b=some o:=fun b o e=>aq _ e
 refine wpAny_newTuple ⟨.tup l,σ₁,r₁.grow (tk:=s₁.toks) kp,⟨_,vs,rfl,⟨_,_,aS _ rfl,rfl,rfl⟩,v₁.mono (VM.of_keeps kp)⟩,m₁.trans (VM.of_keeps kp),q₁⟩ (by rw [v₁.length];exact hl)
theorem CW {elts:List Expr} (h:fN af w cx pos elts σ (fun l σ₁=>l.length≤aH∧∀ x,σ₁.hp x=none→Q (.ref x) (σ₁.put x (.list l))) E):bZ af w cx (.List elts pos) σ Q E:=fun s r=>by
 refine List_ (ak (h s r) (fun vs s₁ zz=>zz.use fun l σ₁ r₁ v₁ m₁ ⟨hl,q₁⟩=>?_) fun ux ux e=>e)
 have kp:∀ b o,s₁.heap.get? b=some o→(s₁.heap.push { cls:=.type "list",data:=.seq vs.toArray }).get? b=some o:=fun b o e=>aq _ e
 refine xf ⟨.ref _,_,r₁.new (ao:=.list l) (tk:=s₁.toks) (cE _) kp ⟨vs,⟨_,aS _ rfl⟩,v₁.mono (VM.of_keeps kp)⟩,di,m₁.trans (VM.of_keeps kp),q₁ _ ?_⟩ (by rw [v₁.length];exact hl)
 cases q:σ₁.hp s₁.heap.objs.size with
 |none=>rfl
 |some ao=>exact absurd q ((Off.new r₁ (cE _)).hp ao)
theorem EG {value slice:Expr} (h:bZ af w cx value σ (fun a σ₁=>bZ af w cx slice σ₁ (fun b σ₂=>de af w cx (cO value slice) a b σ₂ Q E) E) E):bZ af w cx (.Subscript value slice pos) σ Q E:=fun s r=>by
 refine Subscript_ (ak (h s r) (fun va s₁ zz=>zz.use fun a σ₁ r₁ v₁ m₁ q₁=>ak (q₁ s₁ r₁) (fun vb s₂ zz=>zz.use fun b σ₂ r₂ v₂ m₂ q₂=>?_) fun ux ux e=>e.mono m₁) fun ux ux e=>e)
 refine ak (q₂ s₂ va vb r₂ (v₁.mono m₂) v₂) (fun v s₃ zz=>zz.use fun c σ₃ r₃ v₃ m₃ q₃=>⟨c,σ₃,r₃,v₃,(m₁.trans m₂).trans m₃,q₃⟩) fun ux ux e=>e.mono (m₁.trans m₂)
theorem yS {value slice:Expr} {x:Addr} {l:List AV} {i:Int} {a:AV} (hl:σ.lst x l) (hlo:0≤i) (hhi:i<2 ^ 63) (ha:l[i.toNat]?=some a) (h:Q a σ)
  (hs:∀ o i,eA slice false o i=mF [o,i] (lC o i):=by intro _ _;with_unfolding_all rfl) (ht:∀ o r,letTemporaryGo value o r=pure ():=by intro _ _;with_unfolding_all rfl) :
  de af w cx (cO value slice) (.ref x) (.int i) σ Q E:=by
 rintro s va _ r q0 ⟨t,rfl⟩
 rw [show va = .ref x from q0]
 obtain ⟨vs,p,q⟩:=r.lst hl
 obtain ⟨v,hv,hva⟩:=q.get ha
 exact subscriptTail_builtin p.typeIs slot_list_getitem.lookup (wpAny_getItem_list p hlo hhi (by simpa using hv) (dT r hva h)) (hs _ _) (ht _)
noncomputable def pz:List AV→Option (List Int)
 |[]=>some []
 | .int i::l=>(pz l).map (i::·)
 |_=>none
theorem Fx.withP (g:Fx af K cx sc n) (P':Addr→Obj→Prop):Fx af K (cx.withP P') sc n:=⟨g.ok.withP P',g.fe,g.hh⟩
noncomputable def Bn (af:aV) (w:World) (cx:CX) (pos:Pos) (op:BoolOp) (es:List Expr) (σ:AS) (QB:Bool→AS→Prop) (E:Value→AS→Prop):Prop:=∀ whole,Wp af w BR cx (isTrue (.BoolOp op es pos) cx.env whole) σ QB E
theorem eZ {op:BoolOp} {es:List Expr} (h:Bn af w cx pos op es σ QB E):og af w cx (.BoolOp op es pos) σ QB E:=h _
theorem iB (h:QB true σ):Bn af w cx pos .And [] σ QB E:=fun whole s r=>isTrue_and_nil (dT (rel:=BR) (b:=true) r rfl h)
theorem eQ (h:QB false σ):Bn af w cx pos .Or [] σ QB E:=fun whole s r=>isTrue_or_nil (dT (rel:=BR) (b:=false) r rfl h)
theorem D3 {e:Expr} {es:List Expr} (h:og af w cx e σ (fun c σ₁=>if c then Bn af w cx pos .And es σ₁ QB E else QB false σ₁) E):Bn af w cx pos .And (e::es) σ QB E:=fun whole s r=>by
 refine BP r (fun s₀ r₀=>ak (h s₀ r₀) (fun c s₁ zz=>zz.use fun c' σ₁ r₁ v₁ m₁ q₁=>⟨c',σ₁,r₁,v₁,m₁,?_⟩) fun ux ux e=>e)
 cases c' with
 |false=>exact q₁
 |true=>rw [if_pos rfl] at q₁ ⊢;exact fun s₂ r₂=>q₁ _ s₂ r₂
theorem tl_or {e:Expr} {es:List Expr} (h:og af w cx e σ (fun c σ₁=>if c then QB true σ₁ else Bn af w cx pos .Or es σ₁ QB E) E):Bn af w cx pos .Or (e::es) σ QB E:=fun whole s r=>by
 refine DT r (fun s₀ r₀=>ak (h s₀ r₀) (fun c s₁ zz=>zz.use fun c' σ₁ r₁ v₁ m₁ q₁=>⟨c',σ₁,r₁,v₁,m₁,?_⟩) fun ux ux e=>e)
 cases c' with
 |true=>exact q₁
 |false=>simp only [bQ,if_false] at q₁ ⊢;exact fun s₂ r₂=>q₁ _ s₂ r₂
theorem uU {e:Expr} {op:BoolOp} (h:bZ af w cx e σ Q E):bZ af w cx (.BoolOp op [e] pos) σ Q E:=fun s r=>BoolOp_one (h s r)
theorem EJ {e₁ e₂:Expr} {es:List Expr} (h:bZ af w cx e₁ σ (fun a σ₁=>∃ c,a = .bool c∧if c then bZ af w cx (.BoolOp .And (e₂::es) pos) σ₁ Q E else Q (.bool false) σ₁) E):bZ af w cx (.BoolOp .And (e₁::e₂::es) pos) σ Q E:=fun s r=>by
 refine BoolOp_and (ak (h s r) (fun v s₁ zz=>zz.use fun a σ₁ r₁ v₁ m₁ zz=>?_) fun ux ux e=>e)
 obtain ⟨c,ha,q₁⟩:=zz
 subst ha
 rw [show v = .bool c from v₁]
 refine eY ?_
 cases c with
 |true=>exact ak (q₁ s₁ r₁) (fun ux ux p=>p.mono m₁) fun ux ux e=>e.mono m₁
 |false=>exact ⟨.bool false,σ₁,r₁,dk,m₁,q₁⟩
theorem ev_un {e:Expr} {op:UnaryOp} (h:bZ af w cx e σ (fun a σ₁=>Dl af w cx (unaryOp op) a σ₁ Q E) E):bZ af w cx (.UnaryOp op e pos) σ Q E:=fun s r=>by
 refine UnaryOp_ (ak (h s r) (fun va s₁ zz=>zz.use fun a σ₁ r₁ v₁ m₁ q₁=>?_) fun ux ux e=>e)
 exact ak (q₁ s₁ va r₁ v₁) (fun ux ux p=>p.mono m₁) fun ux ux e=>e.mono m₁
theorem Ee {b:Bool} (h:Q (.bool (!b)) σ):Dl af w cx (unaryOp .Not) (.bool b) σ Q E:=fun s va r hv=>by
 rw [show va = .bool b from hv]
 exact not_of (eY (dT r dk h))
theorem Ef {i:Int} (h:Q (.int (-i)) σ):Dl af w cx (unaryOp .USub) (.int i) σ Q E:=fun s va r hv=>by
 obtain ⟨t,rfl⟩:=hv
 exact PySem.P.neg_int (j8 r cQ h)
theorem cz {p:Prop} [Decidable p] {X Y:Prop} (h1:p→X) (h0:¬ p→Y):if decide p=true then X else Y:=by
 by_cases h:p
 ·rw [if_pos (decide_eq_true h)];exact h1 h
 ·rw [if_neg (by simpa using h)];exact h0 h
theorem mL {a b:Int} {X Y:Prop} (h1:a=b→X) (h0:a≠b→Y):if (a == b)=true then X else Y:=by
 by_cases h:a=b
 ·rw [if_pos (by simpa using h)];exact h1 h
 ·rw [if_neg (by simpa using h)];exact h0 h
theorem iZ {a b:Int} {X Y:Prop} (h1:a≠b→X) (h0:a=b→Y):if (a != b)=true then X else Y:=by
 by_cases h:a=b
 ·rw [if_neg (by simpa using h)];exact h0 h
 ·rw [if_pos (by simpa using h)];exact h1 h
theorem cU {X Y:Prop} (h:X):if true=true then X else Y:=by rw [if_pos rfl];exact h
theorem bN {X Y:Prop} (h:Y):if false=true then X else Y:=by rw [if_neg (by decide)];exact h
theorem ite_neg {b:Bool} {X Y:Prop} (h:if b=true then Y else X):if (!b)=true then X else Y:=by
 cases b <;> simpa using h
theorem mX (ok:Ok af K cx sc (n+1)) (hh:cx.A.handled=none) {f:Addr} {sc':Scope} {body:List Stmt} {ps:List Str} {l:List AV} (F:Fn K f sc' body ps) (hlen:ps.length=l.length)
  (h:∀ cx',Fx af K cx' sc' n→cf af w cx' body (σ.enter ps l) (fun fl σ₂=>Q (lI fl) ⟨σ.loc,σ₂.hp⟩) (fun C σ₂=>E C ⟨σ.loc,σ₂.hp⟩)):gd af w cx (.ref f) l σ Q E:=
 cl_fn ok F hlen fun cx' ok fe hh'=>h cx' ⟨ok,fe,hh'.trans hh⟩
theorem C8 (g:Fx af K cx sc (n+1)) {f:Addr} {sc':Scope} {body:List Stmt} {ps:List Str} {l:List AV} (F:Fn K f sc' body ps) (hlen:ps.length=l.length)
  (h:∀ cx',Fx af K cx' sc' n→cf af w cx' body (σ.enter ps l) (fun fl σ₂=>Q (lI fl) ⟨σ.loc,σ₂.hp⟩) (fun C σ₂=>E C ⟨σ.loc,σ₂.hp⟩)):gd af w cx (.ref f) l σ Q E:=mX g.ok g.hh F hlen h
theorem DU (g:Fx af K cx sc n) {test:Expr} {body:List Stmt} (J:Nat→AS→Prop) (k₀:Nat) (h0:J k₀ σ)
  (turn:∀ k σ₁,J k σ₁→og af w cx test σ₁ (fun c σ₂=>if c then cf af w cx body σ₂ (fun f σ₃=>match f with | .next | .cont=>∃ m,m<k∧J m σ₃ | .brk=>QF .next σ₃ | .ret v=>QF (.ret v) σ₃) E else QF .next σ₂) E) :
  jv af w cx (.While test body [] pos) σ QF E:=tc g.ok g.fe J k₀ h0 turn
theorem vX {h:Heap}:∀ {vs:List Value} {ns:List Int},IntsAre vs ns→iM h (ns.map AV.int) vs
 |_,_,.nil=>rfl
 |_,_,.cons i t r=>⟨_,_,rfl,cQ,vX r⟩
theorem ed {f:Addr} {sc:Scope} {body:List Stmt} {ps:List Str} {oc:Value} {od:Option Addr} {osl:Array (Option Value)} {name qual:Str} {params:BC} {dV kV doc pm cdv ct:Value} {an:Option Addr}
  (hlk:K.lookup f=some ⟨oc,od,.func (fnOf name qual params body sc dV kV doc pm an cdv ct),osl⟩) (hcd:codeIn K cdv qual=true) (hk:keepIn K (.ref f)=true)
  (hb:∀ vs:List Value,vs.length=ps.length→bindArgs (fnOf name qual params body sc dV kV doc pm an cdv ct) ⟨vs,[]⟩=pure (ps.zip vs)) (nd:ps.Nodup) (kind:sc.kind = .function) (gen:sc.isGenerator=false) (co:sc.isCoroutine=false)
  (ks:∀ x∈ps,sc.names.lookup x=some .local∨sc.names.lookup x=some .cell) (cu:∀ p∈sc.names,p.2 = .cell→sc.names.lookup p.1=some .cell:=by decide):Fn K f sc body ps:=
 ⟨⟨_,_,_,_,_,_,_,_,_,_,_,_,_,hlk,hcd,hk,hb⟩,nd,kind,gen,co,ks,cu⟩
theorem re {P:List Value→Prop} {ps:List Str} (hp:ps.length=1) (h:∀ a,P [a]):∀ vs:List Value,vs.length=ps.length→P vs:=fun vs hv=>by
 rw [hp] at hv
 obtain ⟨a,rfl⟩:=List.length_eq_one_iff.mp hv
 exact h a
theorem lenZ {P:List Value→Prop} (h:P []):∀ vs:List Value,vs.length=0→P vs:=fun vs hv=>by rw [List.length_eq_zero_iff.mp hv];exact h
theorem rd {P:List Value→Prop} {k:Nat} (h:∀ a (vs:List Value),vs.length=k→P (a::vs)):∀ vs:List Value,vs.length=k+1→P vs:=fun vs hv=>by
 cases vs with
 |nil=>cases hv
 |cons a vs=>exact h a vs (Nat.succ.inj hv)
theorem nB {P:List Value→Prop} {ps:List Str} (hp:ps.length=2) (h:∀ a b,P [a,b]):∀ vs:List Value,vs.length=ps.length→P vs:=fun vs hv =>
 rd (fun a=>rd (P:=fun l=>P (a::l)) fun b=>lenZ (P:=fun l=>P (a::b::l)) (h a b)) vs (hv.trans hp)
theorem Cs {P:List Value→Prop} {ps:List Str} (hp:ps.length=3) (h:∀ a b c,P [a,b,c]):∀ vs:List Value,vs.length=ps.length→P vs:=fun vs hv =>
 rd (fun a=>rd (P:=fun l=>P (a::l)) fun b=>rd (P:=fun l=>P (a::b::l)) fun c=>lenZ (P:=fun l=>P (a::b::c::l)) (h a b c)) vs (hv.trans hp)
theorem Cq {P:List Value→Prop} {ps:List Str} (hp:ps.length=4) (h:∀ a b c d,P [a,b,c,d]):∀ vs:List Value,vs.length=ps.length→P vs:=fun vs hv =>
 rd (fun a=>rd (P:=fun l=>P (a::l)) fun b=>rd (P:=fun l=>P (a::b::l)) fun c=>rd (P:=fun l=>P (a::b::c::l)) fun d=>lenZ (P:=fun l=>P (a::b::c::d::l)) (h a b c d)) vs (hv.trans hp)
theorem AG (ok:Ok af K cx sc n) {x:Str} {px:Pos} {args:List Expr} {f:Addr} (hx:sc.names.lookup x=some .globalImplicit) (e:nsIn K bk x=some (some (.ref f))) (hk:keepIn K (.ref f)=true)
  (h:fN af w cx pos args σ (fun l σ₁=>gd af w cx (.ref f) l σ₁ Q E) E) (hd:(x == ("__debug__":Str))=false:=by decide)
  (he:∀ env,eval (.Call (.Name x px) args [] pos) env=(do kK pos (← eval (.Name x px) env) [] (db pos (bv args env)) (ju pos (eN [] env))):=by intro env;rfl) (hpl:∀ env,(db pos (bv args env)).any (·.1)=false:=by intro env;rfl) :
  bZ af w cx (.Call (.Name x px) args [] pos) σ Q E:=CY ok hk (mR ok hx e (fun ux=>di) ⟨rfl,h⟩ hd) he hpl
theorem yg (ok:Ok af K cx sc n) {x:Str} {px:Pos} {args:List Expr} {id:String} (hx:sc.names.lookup x=some .globalImplicit) (e:nsIn K bk x=some none) (hn:x≠"__name__") (hb:fK x=some (.builtin id))
  (h:fN af w cx pos args σ (fun l σ₁=>gd af w cx (.builtin id) l σ₁ Q E) E) (hd:(x == ("__debug__":Str))=false:=by decide)
  (he:∀ env,eval (.Call (.Name x px) args [] pos) env=(do kK pos (← eval (.Name x px) env) [] (db pos (bv args env)) (ju pos (eN [] env))):=by intro env;rfl) (hpl:∀ env,(db pos (bv args env)).any (·.1)=false:=by intro env;rfl) :
  bZ af w cx (.Call (.Name x px) args [] pos) σ Q E:=AH (kC ok hx e hn hb ⟨rfl,h⟩ hd) he hpl
theorem yf (ok:Ok af K cx sc n) {x:Str} {px:Pos} {args:List Expr} {id:String} (hx:sc.names.lookup x=some .globalImplicit) (e:nsIn K bk x=some none) (hn:x≠"__name__") (hb:fK x=some (.type id))
  (h:fN af w cx pos args σ (fun l σ₁=>gd af w cx (.type id) l σ₁ Q E) E) (hd:(x == ("__debug__":Str))=false:=by decide)
  (he:∀ env,eval (.Call (.Name x px) args [] pos) env=(do kK pos (← eval (.Name x px) env) [] (db pos (bv args env)) (ju pos (eN [] env))):=by intro env;rfl) (hpl:∀ env,(db pos (bv args env)).any (·.1)=false:=by intro env;rfl) :
  bZ af w cx (.Call (.Name x px) args [] pos) σ Q E:=AE (kC ok hx e hn hb ⟨rfl,h⟩ hd) he hpl
theorem gm {x:Str} {v:AV}:(σ.set x v).loc x=some v:=by unfold AS.set;simp
theorem uo {x y:Str} {v:AV} {u:Option AV} (h:y≠x) (h':σ.loc y=u):(σ.set x v).loc y=u:=by unfold AS.set;simp [h,h']
theorem aX {a:Addr} {o:AO}:(σ.put a o).hp a=some o:=by unfold AS.put;simp
theorem bH {a b:Addr} {o:AO} {u:Option AO} (h:b≠a) (h':σ.hp b=u):(σ.put a o).hp b=u:=by unfold AS.put;simp [h,h']
theorem D7 {x:Str} {v:AV} {b:Addr} {u:Option AO} (h':σ.hp b=u):(σ.set x v).hp b=u:=h'
theorem vN {a:Addr} {o:AO} {y:Str} {u:Option AV} (h':σ.loc y=u):(σ.put a o).loc y=u:=h'
theorem li (g:Fx af K cx sc n) {test:Expr} {body:List Stmt} (J:Nat→AS→Prop) (k₀:Nat) (h0:J k₀ σ)
  (turn:∀ k σ₁,J k σ₁→og af w cx test σ₁ (fun c σ₂=>if c then cf af w cx body σ₂ (rI (fun σ=>∃ m,m<k∧J m σ) QF) E else QF .next σ₂) E) :
  jv af w cx (.While test body [] pos) σ QF E:=DU g J k₀ h0 fun k σ₁ hj=>(turn k σ₁ hj).imp (fun c σ₂ q=>by
   cases c with
   |false=>exact q
   |true=>exact Wp.imp q (fun f σ₃ q=>by cases f <;> exact q) fun ux ux e=>e) fun ux ux e=>e
theorem yI (g:Ok af K cx sc n) {x:Str} {value:Expr} {pos':Pos} (hx:sc.names.lookup x=some .local)
  (hs:g8 value (some (.Name x pos')) pos.line cx.env=pure false) (h:bZ af w cx value σ (fun a σ₁=>QF .next (σ₁.set x a)) E):jv af w cx (.Assign [.Name x pos'] value pos) σ QF E:=yc g h hx hs
theorem DW (g:Ok af K cx sc n) {x:Str} {v:AV} (hd:(x == ("__debug__":Str))=false) (hc:(x == ("__classdict__":Str))=false) (hv:σ.loc x=some v) (h:Q v σ):bZ af w cx (.Name x pos) σ Q E:=CV g hv h hd hc
theorem vH (g:Ok af K cx sc n) {x:Str} {v:AV} {u:Value} (hx:sc.names.lookup x=some .globalImplicit) (hd:(x == ("__debug__":Str))=false) (e:nsIn K bk x=some (some u)) (hv:∀ h:Heap,VR h v u) (h:Q v σ):bZ af w cx (.Name x pos) σ Q E:=mR g hx e hv h hd
theorem qQ (g:Ok af K cx sc n) {x:Str} {u:Value} (hx:sc.names.lookup x=some .globalImplicit) (hd:(x == ("__debug__":Str))=false) (e:nsIn K bk x=some none) (hn:x≠"__name__") (hb:fK x=some u) (h:Q (.raw u) σ):bZ af w cx (.Name x pos) σ Q E:=kC g hx e hn hb h hd
theorem BZ (g:Ok af K cx sc n) {x:Str} {px:Pos} {args:List Expr} {id:String} (hx:sc.names.lookup x=some .globalImplicit) (e:nsIn K bk x=some none) (hn:x≠"__name__") (hb:fK x=some (.builtin id))
  (hd:(x == ("__debug__":Str))=false) (he:∀ env,eval (.Call (.Name x px) args [] pos) env=(do kK pos (← eval (.Name x px) env) [] (db pos (bv args env)) (ju pos (eN [] env)))) (hpl:∀ env,(db pos (bv args env)).any (·.1)=false)
  (h:fN af w cx pos args σ (fun l σ₁=>gd af w cx (.builtin id) l σ₁ Q E) E):bZ af w cx (.Call (.Name x px) args [] pos) σ Q E:=yg g hx e hn hb h hd he hpl
theorem BY (g:Ok af K cx sc n) {x:Str} {px:Pos} {args:List Expr} {id:String} (hx:sc.names.lookup x=some .globalImplicit) (e:nsIn K bk x=some none) (hn:x≠"__name__") (hb:fK x=some (.type id))
  (hd:(x == ("__debug__":Str))=false) (he:∀ env,eval (.Call (.Name x px) args [] pos) env=(do kK pos (← eval (.Name x px) env) [] (db pos (bv args env)) (ju pos (eN [] env)))) (hpl:∀ env,(db pos (bv args env)).any (·.1)=false)
  (h:fN af w cx pos args σ (fun l σ₁=>gd af w cx (.type id) l σ₁ Q E) E):bZ af w cx (.Call (.Name x px) args [] pos) σ Q E:=yf g hx e hn hb h hd he hpl
theorem vn {e:Expr} {rest:List Expr} {Q:List AV→AS→Prop} (he:∀ env,bv (e::rest) env=(false,eval e env)::bv rest env) (h:bZ af w cx e σ (fun a σ₁=>fN af w cx pos rest σ₁ (fun l σ₂=>Q (a::l) σ₂) E) E):fN af w cx pos (e::rest) σ Q E:=Dh h he
theorem v_cmp {l rr:Expr} {op:CmpOp} (hm:oO op rr=false) (h:bZ af w cx l σ (fun a σ₁=>bZ af w cx rr σ₁ (fun b σ₂=>de af w cx (bL op) a b σ₂ Q E) E) E):bZ af w cx (.Compare l [op] [rr] pos) σ Q E:=EH h hm
theorem t_cmp {l rr:Expr} {op:CmpOp} (hm:oO op rr=false) (h:bZ af w cx l σ (fun a σ₁=>bZ af w cx rr σ₁ (fun b σ₂=>de af w cx (bL op) a b σ₂ (fun v σ₃=>∃ c,v = .bool c∧QB c σ₃) E) E) E):og af w cx (.Compare l [op] [rr] pos) σ QB E:=D1 h hm
theorem t_val {e:Expr} (he:∀ env,isTrue e env (eval e env)=(do let v ← eval e env;standAt e.pos;Cz [v] (truthy v))) (h:bZ af w cx e σ (fun v σ₁=>∃ c,v = .bool c∧QB c σ₁) E):og af w cx e σ QB E:=DZ h (he _)
theorem v_div (g:Ok af K cx sc n) {a b:Int} (hb:0<b) (h:Q (.int (a / b)) σ):de af w cx (kM .FloorDiv) (.int a) (.int b) σ Q E:=Eh g hb h
noncomputable abbrev eB (x:Str) (px:Pos) (args:List Expr) (pos:Pos):Prop:=(∀ env,eval (.Call (.Name x px) args [] pos) env=(do kK pos (← eval (.Name x px) env) [] (db pos (bv args env)) (ju pos (eN [] env))))∧∀ env,(db pos (bv args env)).any (·.1)=false
theorem dz (g:Ok af K cx sc n) {x:Str} {px:Pos} {args:List Expr} {f:Addr} (hx:sc.names.lookup x=some .globalImplicit) (e:nsIn K bk x=some (some (.ref f))) (hk:keepIn K (.ref f)=true)
  (hd:(x == ("__debug__":Str))=false) (hp:eB x px args pos) (h:fN af w cx pos args σ (fun l σ₁=>gd af w cx (.ref f) l σ₁ Q E) E):bZ af w cx (.Call (.Name x px) args [] pos) σ Q E:=AG g hx e hk h hd hp.1 hp.2
end
noncomputable def AS.Sub (σ σ':AS):Prop:=∀ a o,σ.hp a=some o→σ'.hp a=some o
theorem AS.Sub.refl (σ:AS):σ.Sub σ:=fun ux ux e=>e
theorem AS.Sub.set {σ σ':AS} {x:Str} {v:AV} (a:σ.Sub σ'):σ.Sub (σ'.set x v):=a
theorem AS.Sub.put {σ σ':AS} {x:Addr} {o:AO} (a:σ.Sub σ') (h:σ'.hp x=none):σ.Sub (σ'.put x o):=fun y o' e=>by
 unfold AS.put
 dsimp only
 split
 ·rename_i q;subst q;rw [a y o' e] at h;cases h
 ·exact a y o' e
section
variable {K:Frag} {cx:CX} {sc:Scope} {n:Nat} {σ:AS} {Q:AV→AS→Prop} {QB:Bool→AS→Prop} {QF:AF→AS→Prop} {E:Value→AS→Prop} {pos:Pos}
theorem gd.forget {f:Value} {l:List AV} (h:gd af w cx f l σ (fun b σ'=>∃ σ₀,σ₀.Le σ'∧Q b σ₀) (fun C σ'=>∃ σ₀,σ₀.Le σ'∧E C σ₀)):gd af w cx f l σ Q E:=fun s vs r hv =>
 ak (h s vs r hv) (fun v s' zz=>zz.use fun b σ' r' v' m' ⟨σ₀,l,q⟩=>⟨b,σ₀,r'.le l,v',m',q⟩) fun v s' ⟨e,C,σ',s₀,L,a,b,c,d,f,g,σ₀,l,i⟩=>⟨e,C,σ₀,s₀,L,a,b.le l,c,d,⟨f.1,f.2.imp id fun ⟨_,σ₁,_,q⟩=>⟨σ₁,q⟩,f.3⟩,g,i⟩
structure Pur (Q:AV→AS→Prop) (σ:AS) (fl:AF) (σ₂:AS):Prop where
 s:σ.Sub σ₂
 q:Q (lI fl) σ
structure PurE (E:Value→AS→Prop) (σ:AS) (C:Value) (σ₂:AS):Prop where
 s:σ.Sub σ₂
 q:E C σ
theorem l8 (ok:Ok af K cx sc (n+1)) (hh:cx.A.handled=none) {f:Addr} {sc':Scope} {body:List Stmt} {ps:List Str} {l:List AV} (F:Fn K f sc' body ps) (hlen:ps.length=l.length)
  (h:∀ cx',Fx af K cx' sc' n→cf af w cx' body (σ.enter ps l) (Pur Q σ) (PurE E σ)):gd af w cx (.ref f) l σ Q E:=
 gd.forget (mX ok hh F hlen fun cx' g'=>(h cx' g').imp (fun fl σ₂ ⟨a,b⟩=>⟨σ,⟨fun ux ux e=>e,a⟩,b⟩) fun C σ₂ ⟨a,b⟩=>⟨σ,⟨fun ux ux e=>e,a⟩,b⟩)
theorem eT (g:Fx af K cx sc (n+1)) {f:Addr} {sc':Scope} {body:List Stmt} {ps:List Str} {l:List AV} (F:Fn K f sc' body ps) (hlen:ps.length=l.length)
  (h:∀ cx',Fx af K cx' sc' n→cf af w cx' body (σ.enter ps l) (Pur Q σ) (PurE E σ)):gd af w cx (.ref f) l σ Q E:=l8 g.ok g.hh F hlen h
theorem rangeSize_one {a b:Int} (h:a≤b):d9 a b 1=b - a:=by
 unfold d9
 rw [if_pos (by decide)]
 split
 ·rw [Int.ediv_one];lia
 ·lia
inductive Bq (af:aV) (w:World) (K:Frag) (sc:Scope) (n:Nat) (x:Str) (body:List Stmt) (QF:AF→AS→Prop) (E:Value→AS→Prop) (v:AV) (σ₁:AS):Prop
 |mk (ax:Addr) (a b:Int) (J:Nat→AS→Prop) (h1:v = .ref ax) (h2:σ₁.hp ax=some (.range a b 1)) (h3:-(2 ^ 62)≤a) (h4:a≤b) (h5:b<2 ^ 62) (h6:J 0 σ₁)
   (h7:∀ (i:Nat) σ cx',Fx af K cx' sc n→a+i<b→J i σ→cf af w cx' body (σ.set x (.int (a+i))) (rI (J (i+1)) QF) E) (h8:∀ σ,J (b - a).toNat σ→QF .next σ):Bq af w K sc n x body QF E v σ₁
theorem vD (g:Fx af K cx sc n) {x:Str} {px:Pos} {iter:Expr} {body:List Stmt} (hx:sc.names.lookup x=some .local) (hs:∀ v,dF iter cx.env v=pure v)
  (h:bZ af w cx iter σ (Bq af w K sc n x body QF E) E):jv af w cx (.For (.Name x px) iter body [] pos) σ QF E:=
 AD g.ok g.fe g.hh hx (h.imp (fun v σ₁ ⟨ax,a,b,J,h1,h2,h3,h4,h5,h6,h7,h8⟩=>by
  subst h1
  refine ⟨_,J,.range h2 (by decide) (small_one h3 (by (exact Int.lt_of_le_of_lt (by assumption) (by assumption))) (by (exact Int.le_trans (by assumption) (by assumption))) h5),h6,fun i x σ P' hi hj _=>?_,fun σ hj=>h8 σ (by rw [aj,cC,rangeSize_one h4] at hj;exact hj)⟩
  obtain ⟨hi',e⟩:=aF.mp hi
  rw [aj,cC,rangeSize_one h4] at hi'
  rw [List.getElem_map,List.getElem_range,Int.mul_one] at e
  subst e
  exact h7 i σ _ (g.withP P') (by lia) hj) fun ux ux e=>e) hs
noncomputable def cellAt (ns:List Int) (k:Nat):Int:=ns[k]?.getD 0
theorem v_mul {a b:Int} (hm:IntMulOk a b) (h:Q (.int (a * b)) σ):de af w cx (kM .Mult) (.int a) (.int b) σ Q E:=Eg hm h
theorem v_pow {a k:Int} (hn:0≤k) (hsz:(Builtin.Int.intBits a:Int) * k≤2 ^ 27) (h:Q (.int (a ^ k.toNat)) σ):de af w cx (kM .Pow) (.int a) (.int k) σ Q E:=Ed hn hsz h
noncomputable def BE (Q:AV→AS→Prop) (l:List AV) (σ:AS):Prop:=∃ a b:Int,l=[.int a,.int b]∧0<b∧Q (.int (if a / b % 2=0 then a+b else a - b)) σ
theorem Bl {a b:Int} (hb:0<b) (h:Q (.int (if a / b % 2=0 then a+b else a - b)) σ):BE Q [.int a,.int b] σ:=⟨a,b,rfl,hb,h⟩
noncomputable def rN (Q:AV→AS→Prop) (l:List AV) (σ:AS):Prop:=∃ a:Int,l=[.int a]∧Q (.bool true) σ
theorem Dj {a:Int} (h:Q (.bool true) σ):rN Q [.int a] σ:=⟨a,rfl,h⟩
inductive Fj (Q:AV→AS→Prop) (l:Str→Option AV) (fl:AF) (σ₂:AS):Prop
 |mk (σ₀:AS) (h:σ₀.Le ⟨l,σ₂.hp⟩) (q:Q (lI fl) σ₀):Fj Q l fl σ₂
inductive yE (E:Value→AS→Prop) (l:Str→Option AV) (C:Value) (σ₂:AS):Prop
 |mk (σ₀:AS) (h:σ₀.Le ⟨l,σ₂.hp⟩) (q:E C σ₀):yE E l C σ₂
theorem eO (g:Fx af K cx sc (n+1)) {f:Addr} {sc':Scope} {body:List Stmt} {ps:List Str} {l:List AV} (F:Fn K f sc' body ps) (hlen:ps.length=l.length)
  (h:∀ cx',Fx af K cx' sc' n→cf af w cx' body (σ.enter ps l) (Fj Q σ.loc) (yE E σ.loc)):gd af w cx (.ref f) l σ Q E:=
 gd.forget (C8 g F hlen fun cx' g'=>(h cx' g').imp (fun fl σ₂ ⟨a,b,c⟩=>⟨a,b,c⟩) fun C σ₂ ⟨a,b,c⟩=>⟨a,b,c⟩)
noncomputable def vB (Q:AV→AS→Prop) (l:List AV) (σ:AS):Prop:=∃ x k ns,l=[.ref x,.int k]∧σ.hp x=some (.ro (ns.map AV.int))∧ns.length≤63∧0≤k∧k<2 ^ 62∧Q (.int (cellAt ns k.toNat)) σ
theorem rH {x:Addr} {k:Int} {ns:List Int} (h1:σ.hp x=some (.ro (ns.map AV.int))) (h2:ns.length≤63) (h3:0≤k) (h4:k<2 ^ 62) (h:Q (.int (cellAt ns k.toNat)) σ):vB Q [.ref x,.int k] σ:=⟨x,k,ns,rfl,h1,h2,h3,h4,h⟩
noncomputable def qK (Q:AV→AS→Prop) (l:List AV) (σ:AS):Prop:=∃ k:Int,l=[.int k]∧0≤k∧k<2 ^ 20∧Q (.int (2 ^ k.toNat)) σ
theorem lE {k:Int} (h0:0≤k) (h1:k<2 ^ 20) (h:Q (.int (2 ^ k.toNat)) σ):qK Q [.int k] σ:=⟨k,rfl,h0,h1,h⟩
theorem Au {c:ClaimW} {cl:Str→Option Addr} {mean:ExcName→Option Value} {args:List WData} {s₁ s':az} {f:Flow} (hn:∀ cls,c.raises args cls=false) (hp:c.post args (.bool true) args=true) (hg:s₁.gens=#[])
  (k:∀ b o,s₁.heap.get? b=some o→s'.heap.get? b=some o) (ho:s'.os=s₁.os) (hg':s'.gens=s₁.gens) :
  (∃ v,f = .ret v∧v = .bool true)→GoodW c cl mean args s₁ (.ok (.ret (match f with | .ret v=>v|_=> .none))) s':=by
 rintro ⟨v,rfl,rfl⟩
 exact ⟨.inl ⟨.bool true,.bool true,[],rfl,hn,ReadsW.bool _,hp,fun ux=>⟨.nil,fun ux ha=>nomatch ha⟩⟩,k,ho,hg'.trans hg⟩
theorem nV {s:az} (r:R af w cx σ s):∃ L,cx.fenv.frame=some L:=by obtain ⟨_,⟨L,o,hf,_⟩,_⟩:=r.ff;exact ⟨L,hf⟩
theorem rk {h:Heap} {base:Heap} {h₀:Heap} {fr:List Addr}:∀ l:List Env,(∀ en∈l,∀ a,en.frame=some a→a∈fr)→h.FunFrames base l→h.FunFrames (et h₀ fr) l
 |[],_,_=>trivial
 |en::l,hm,⟨hk,⟨a,o,hf,hn,ho,hd⟩,hr⟩=>⟨hk,⟨a,o,hf,Ex _ (hm en (.head _) a hf),ho,hd⟩,rk l (fun e he=>hm e (.tail _ he)) hr⟩
theorem AC (ok:Ok af K cx sc n) (hh:cx.A.handled=none) {x:Str} {C:Addr} {bmB:List Value} {B newId initId:String} {np cpos:Pos} {args:List Expr} (hx:sc.names.lookup x=some .globalImplicit) (e:nsIn K bk x=some (some (.ref C)))
  (q:excIn K C bmB newId=true) (FB:ExcBaseFacts B newId initId bmB) (hd:(x == ("__debug__":Str))=false) (hpl:∀ env,(db cpos (bv args env)).any (·.1)=false)
  (h:fN af w cx cpos args σ (fun l σ₁=>l.length≤aH∧E (.ref C) σ₁) E):jv af w cx (.Raise (some (.Call (.Name x np) args [] cpos)) none pos) σ QF E:=fun s r=>by
 obtain ⟨p,loose,mg,mb,T⟩:=ok.glo.top
 obtain ⟨tl,N,nm,qn,bs,hdct,sn,sub,ab,col,dd,k0,k1,k2,k3,k5,mN,hC,hN,hni,TL⟩:=(own_of_in ok.glo.KX T e q).obj
 refine wpAny_Raise_call_subT (C:=C) (nm:=nm) (q:=qn) (N:=N) (bs:=bs) (bm:=tl) (hdct:=hdct) (sn:=sn) (sub:=sub) (ab:=ab) (col:=col) (dd:=dd) (k0:=k0) (k1:=k1) (k2:=k2) (k3:=k3) (k5:=k5)
  FB (mN:=mN) (TL.hasType FB.hasBase) hh (hpl _) hni ?_
 refine ak (mR (E:=E) (pos:=np) (Q:=fun v σ₁=>v = .ref C∧σ₁=σ) ok hx e (fun ux=>di) ⟨rfl,rfl⟩ hd s r) (fun f s₁ zz=>zz.use fun a σ₁ r₁ v₁ m₁ ⟨ha,hσ⟩=>?_) fun ux ux e=>e
 subst ha hσ
 refine ⟨v₁,eK (hpl _) (ak (h s₁ r₁) (fun vs s₂ zz=>zz.use fun l σ₂ r₂ v₂ m₂ ⟨hl,hE⟩=>?_) fun ux ux e=>e.mono m₁)⟩
 refine ⟨rfl,by show vs.length≤_;rw [v₂.length];exact hl,r₂.stay _ _ hC,hN.keeps r₂.stay,TL.keeps r₂.stay,fun h' e' M=>?_⟩
 obtain ⟨t,he,htn,ht⟩:=M.there
 obtain ⟨L,hL⟩:=nV r₂
 refine ⟨e',.ref C,σ₂,s₂,L,rfl,r₂,rfl,⟨hL,fun b o hb=>M.keeps b o (ut _ hb),?_,?_,Heap.UpToSlots.of_keeps M.keeps⟩,⟨.inl ⟨_,_,_,he,rfl,rfl,rfl,rfl⟩,.inl ⟨_,_,he,rfl,rfl⟩,nofun⟩,m₁.trans m₂,hE⟩
 ·cases qq:(et s₂.heap cx.frames).get? e' with
  |none=>rfl
  |some o=>have:=ut _ qq;rw [M.new] at this;cases this
 ·exact rk _ (fun en he a ha=>bP.mpr ⟨en,he,ha⟩) (r₂.ff.of_keeps fun b o hb ux=>⟨o,M.keeps b o hb,rfl⟩)
noncomputable def CX.mark (cx:CX) (e:Addr):CX:={ cx with A:=cx.A.mark (some (.ref e)) }
theorem Ok.mark (ok:Ok af K cx sc n) (e:Addr):Ok af K (cx.mark e) sc n:=⟨ok.1,ok.2,ok.3,ok.4,ok.5,ok.6,ok.7,ok.8,ok.9,ok.10,ok.11,ok.12,ok.13,ok.14,ok.15,ok.16,ok.17⟩
theorem R.mark {s:az} (r:R af w cx σ s) (e:Addr):R af w (cx.mark e) σ s:=⟨r.1,r.2,r.3,r.4,r.5,r.6,r.7,r.8,r.9,r.10,r.11,r.12,r.13⟩
theorem R.unmark {s:az} {e:Addr} (r:R af w (cx.mark e) σ s):R af w cx σ s:=⟨r.1,r.2,r.3,r.4,r.5,r.6,r.7,r.8,r.9,r.10,r.11,r.12,r.13⟩
noncomputable def Fm (af:aV) (w:World) (cx:CX) (hs:List dr) (C:Value) (σ:AS) (QF:AF→AS→Prop) (E:Value→AS→Prop):Prop:=
 ∀ s e L a0 h₀ tk,R af w cx σ { s with heap:=h₀,toks:=tk }→XC cx h₀ s.heap L e→s.heap.TracedW (et h₀ cx.frames) e C a0→wpAny (model af w) cx.A (handleBy (.ref e) cx.env hs) (dU af w FR cx { s with heap:=h₀ } QF) (dh af w cx { s with heap:=h₀ } E) s
noncomputable def E6 (af:aV) (w:World) (cx:CX) (hs:List dr) (C:Value) (σ:AS) (QF:AF→AS→Prop) (E:Value→AS→Prop):Prop:=
 ∀ s e L a0 h₀ tk,R af w cx σ { s with heap:=h₀,toks:=tk }→XC cx h₀ s.heap L e→s.heap.TracedW (et h₀ cx.frames) e C a0→F2 s.heap e→wpAny (model af w) cx.A (handleBy (.ref e) cx.env hs) (dU af w FR cx { s with heap:=h₀ } QF) (dh af w cx { s with heap:=h₀ } E) s
theorem rl (ok:Ok af K cx sc n) (hfe:cx.env=cx.fenv) {body:List Stmt} {h₀:dr} {hl:List dr} {E₁:Value→AS→Prop} (h:cf af w cx body σ QF E₁)
  (hE:∀ C σ₁,C ≠ .none→E₁ C σ₁→Fm af w cx (h₀::hl) C σ₁ QF E∨((∀ σ,¬ E₁ .none σ)∧E6 af w cx (h₀::hl) C σ₁ QF E)):jv af w cx (.Try body (h₀::hl) [] [] pos) σ QF E:=fun s r=>by
 refine wpAny_Try_except (ak (h s r) (fun f s₁ zz=>zz.use fun a σ₁ r₁ v₁ m₁ q₁=>?_) fun v s₁ ⟨e,C,σ₁,s₀,L,hv,r₁,hs,x,es,m₁,q⟩=>?_)
 ·cases a with
  |next=>rw [show f = .next from v₁];exact Du ⟨.next,σ₁,r₁,rfl,m₁,q₁⟩
  |brk=>rw [show f = .brk from v₁];exact ⟨.brk,σ₁,r₁,rfl,m₁,q₁⟩
  |cont=>rw [show f = .cont from v₁];exact ⟨.cont,σ₁,r₁,rfl,m₁,q₁⟩
  |ret a=>obtain ⟨v,rfl,hv⟩:=v₁;exact ⟨.ret a,σ₁,r₁,⟨v,rfl,hv⟩,m₁,q₁⟩
 ·subst hv
  refine q8 ok.fr hfe x es fun h' a0 x' ht ff=>?_
  refine zj x'.st x'.ff ht fun h'' k1 k2 k3 k4 k5=>?_
  have x'':XC cx s₀.heap h'' L e:=⟨x'.fr,k1,x'.new,k2,x'.up.trans fun b o hb hn=>⟨o.slots,k4 b o hb hn⟩⟩
  have:wpAny (model af w) cx.A (handleBy (.ref e) cx.env (h₀::hl)) (dU af w FR cx { { s₁ with heap:=h'' } with heap:=s₀.heap } QF) (dh af w cx { { s₁ with heap:=h'' } with heap:=s₀.heap } E) { s₁ with heap:=h'' }:=by
   rcases hE C σ₁ es.3 q with z|⟨z1,z⟩
   ·exact z { s₁ with heap:=h'' } e L a0 s₀.heap s₀.toks (by rw [hs];exact r₁) x'' k3
   ·exact z { s₁ with heap:=h'' } e L a0 s₀.heap s₀.toks (by rw [hs];exact r₁) x'' k3 (k5 (ff.elim id fun ⟨σ,y⟩=>(z1 σ y).elim))
  exact ak this (fun ux ux p=>p.mono (by exact m₁)) fun ux ux p=>p.mono (by exact m₁)
theorem AB (g:Fx af K cx sc n) {body:List Stmt} {h₀:dr} {hs:List dr} (h:cf af w cx body σ QF (fun C σ₁=>Fm af w cx (h₀::hs) C σ₁ QF E)):jv af w cx (.Try body (h₀::hs) [] [] pos) σ QF E:=
 rl g.ok g.fe h fun ux ux ux q=> .inl q
theorem CS (g:Fx af K cx sc n) {body:List Stmt} {h₀:dr} {hs:List dr} (h:cf af w cx body σ QF (fun C σ₁=>C = .none∨Fm af w cx (h₀::hs) C σ₁ QF E)):jv af w cx (.Try body (h₀::hs) [] [] pos) σ QF E:=
 rl g.ok g.fe h fun ux ux n q=> .inl (q.resolve_left n)
theorem CT (g:Fx af K cx sc n) {body:List Stmt} {h₀:dr} {hs:List dr} (h:cf af w cx body σ QF (fun C σ₁=>C ≠ .none∧E6 af w cx (h₀::hs) C σ₁ QF E)):jv af w cx (.Try body (h₀::hs) [] [] pos) σ QF E:=
 rl g.ok g.fe h fun ux ux ux q=> .inr ⟨fun ux q=>q.1 rfl,q.2⟩
theorem R.add {s:az} {a:Addr} {ao:AO} (r:R af w cx σ s) (ho:OR af w s.heap a ao) (h1:cx.base.get? a=none) (h2:∀ o,¬ cx.P a o) (h3:¬ cx.own a) (h4:∀ e∈cx.fenv::cx.outer,e.frame≠some a):R af w cx (σ.put a ao) s:=by
 refine { r with ob:=fun b bo e=>?_ }
 unfold AS.put at e
 dsimp only at e
 split at e
 ·rename_i q;subst q;cases e;exact ⟨ho,fun ux=>h1,h2,h3,h4⟩
 ·exact r.ob b bo e
theorem wP {h₀ h:Heap} {L e:Addr} {tk:Nat} {s:az} (r:R af w cx σ { s with heap:=h₀,toks:=tk }) (x:XC cx h₀ h L e):cx.base.get? e=none∧(∀ o,¬ cx.P e o)∧σ.hp e=none:=by
 have key:∀ o,h₀.get? e=some o→e∉cx.frames→False:=fun o h1 h2=>by
  have:=x.new;rw [hideAll_get _ h1 h2] at this;cases this
 refine ⟨?_,fun o hp=>key o (r.pr e o hp).1 (r.pr e o hp).2,?_⟩
 ·cases q:cx.base.get? e with
  |none=>rfl
  |some o=>exact (key o (r.stay e o q) fun hm=>by have:=(r.ff.mem hm).1;rw [this] at q;cases q).elim
 ·cases q:σ.hp e with
  |none=>rfl
  |some ao =>
   obtain ⟨p,_,_,_,q4⟩:=r.ob e ao q
   obtain ⟨o,ho,_⟩:=p.there
   exact (key o ho fun hm=>by obtain ⟨en,he,hf⟩:=dX hm;exact q4 en he hf).elim
theorem EE {h₀:Heap} {L e:Addr} {tk tk':Nat} {s:az} {C a0:Value} {h:Heap} (r:R af w cx σ { s with heap:=h₀,toks:=tk }) (x:XC cx h₀ h L e) (t:h.TracedW (et h₀ cx.frames) e C a0) :
  R af w cx (σ.put e (.exc C)) { s with heap:=h,toks:=tk' }:=by
 obtain ⟨b1,b2,b3⟩:=wP r x
 have r':R af w cx σ { s with heap:=h,toks:=tk' }:=r.slots (tk:=tk') x.st x.up
 obtain ⟨oe,vs,T,oT,ts,he,⟨hcls,h0⟩,hd,h1,hnT,hTe,hT,hdT,h3⟩:=t
 refine r'.add ⟨oe,vs,he,hcls,hd⟩ b1 b2 (fun q=>?_) fun en hen hf=>?_
 ·rcases q with q|⟨y,q⟩
  ·obtain ⟨m,hm⟩:=r'.ns
   obtain ⟨o,g1,g2⟩:=dB hm
   rw [← q] at g1
   rw [show h.get? e=some o from g1] at he;cases he;exact g2 _ hd
  ·obtain ⟨_,⟨o,v,c1,c2⟩,_⟩:=r'.cel y e q
   rw [show h.get? e=some o from c1] at he;cases he;rw [c2] at hd;cases hd
 ·obtain ⟨_,o,g1,g2⟩:=r'.ff.mem (bP.mpr ⟨en,hen,hf⟩)
  rw [show h.get? e=some o from g1] at he;cases he;exact g2 _ hd
theorem yK {h h':Heap} (u:h.UpToSlots h'):VM h h':=VM.of_slots u
theorem ri (ok:Ok af K cx sc n) {x:Str} {np hpos:Pos} {D Ca:Addr} {b:Bool} {name:Option Str} {b₀:Stmt} {body:List Stmt} {rest:List dr} (hx:sc.names.lookup x=some .globalImplicit) (e:nsIn K bk x=some (some (.ref D)))
    (hm:exmOne K (.ref Ca) (.ref D)=some b) (hd:(x == ("__debug__":Str))=false) {s:az} {ex L:Addr} {a0:Value} {h₀:Heap} {tk:Nat} {Qw:Flow→az→Prop} {Ew:Value→az→Prop}
    (r:R af w cx σ { s with heap:=h₀,toks:=tk }) (xc:XC cx h₀ s.heap L ex) (t:s.heap.TracedW (et h₀ cx.frames) ex (.ref Ca) a0)
    (h1:b=true→rn (model af w) (cx.A.mark (some (.ref ex))) (.handlers (.ref ex) [.ExceptHandler none name (b₀::body) hpos] cx.env) (fun r s₂=>match r with
          | .ok f=>(match name with
            |none=>Qw f s₂
            |some n=>wpAny (model af w) cx.A (do bindName cx.env n .none;unbindBehindTheSuite cx.env n hpos) (fun ux s₃=>Qw f s₃) Ew s₂)
          | .error x=>cameBackBy (model af w) cx.A cx.env Ew x s₂) s)
    (h0:b=false→wpAny (model af w) cx.A (handleBy (.ref ex) cx.env rest) Qw Ew s) :
    wpAny (model af w) cx.A (handleBy (.ref ex) cx.env (.ExceptHandler (some (.Name x np)) name (b₀::body) hpos::rest)) Qw Ew s:=by
  have r':R af w cx σ { s with heap:=s.heap,toks:=s.toks }:=r.slots (tk:=s.toks) xc.st xc.up
  have KX:K.In s.heap:=fun a o q=>r'.stay a o (ok.glo.KX a o q)
  have hk:cx.env.scope.kind = .function:=by rw [ok.scope];exact ok.kind
  obtain ⟨mg,hg⟩:=ok.glo.g
  obtain ⟨oe,vs,T,oT,ts,he,⟨hcls,_⟩,_⟩:=t
  have LT:Looks (model af w) s.heap (typeOf (.ref ex)) (.ref Ca):=hcls▸(Looks.ld he).andThen .now
  refine wpAny_handleBy_cons (codeAny_handlers_test (Name_function_global hk (by unfold tR;rw [ok.scope];exact hx) (loadGlobal_global (by rw [ok.glob];exact hg.keeps r'.stay) (mg_of ok.glo.KX hg e) ?_) hd)) (by intro q;cases q)
  refine (exm_one KX LT hm).here ?_
  cases b with
  |true=>exact h1 rfl
  |false=>exact h0 rfl
theorem vZ (ok:Ok af K cx sc n) {x:Str} {np hpos:Pos} {D Ca:Addr} {name:Option Str} {b₀:Stmt} {body:List Stmt} {rest:List dr} (hx:sc.names.lookup x=some .globalImplicit) (e:nsIn K bk x=some (some (.ref D)))
  (hm:exmOne K (.ref Ca) (.ref D)=some false) (hd:(x == ("__debug__":Str))=false) (h:Fm af w cx rest (.ref Ca) σ QF E):Fm af w cx (.ExceptHandler (some (.Name x np)) name (b₀::body) hpos::rest) (.ref Ca) σ QF E:=
 fun s ex L a0 h₀ tk r xc t=>ri ok hx e hm hd r xc t (fun q=>by cases q) fun ux=>h s ex L a0 h₀ tk r xc t
theorem ky (ok:Ok af K cx sc n) {x:Str} {np hpos:Pos} {D Ca:Addr} {b₀:Stmt} {body:List Stmt} {rest:List dr} (hx:sc.names.lookup x=some .globalImplicit) (e:nsIn K bk x=some (some (.ref D)))
  (hm:exmOne K (.ref Ca) (.ref D)=some true) (hd:(x == ("__debug__":Str))=false) (h:∀ cx',Ok af K cx' sc n→cf af w cx' (b₀::body) σ QF (fun ux ux=>False)):Fm af w cx (.ExceptHandler (some (.Name x np)) none (b₀::body) hpos::rest) (.ref Ca) σ QF E:=
 fun s ex L a0 h₀ tk r xc t=>ri ok hx e hm hd r xc t (fun _=>by
  refine codeAny_handlers_suite (lands_againW ⟨xc.st,xc.new,xc.ff,t⟩ fun h' ⟨k1,k2,k3,k4⟩ u=>?_)
  have r':R af w cx σ { s with heap:=h',toks:=s.toks }:=r.slots (tk:=s.toks) k1 (xc.up.trans u)
  refine ak (h (cx.mark ex) (ok.mark ex) { s with heap:=h' } (r'.mark ex)) (fun f s₂ zz=>zz.use fun a σ₂ r₂ v₂ m₂ q₂=>?_) fun v s₂ ⟨_,_,_,_,_,_,_,_,_,_,_,q⟩=>q.elim
  exact ⟨a,σ₂,r₂.unmark,v₂,(yK (xc.up.trans u)).trans m₂,q₂⟩) fun q=>by cases q
end
set_option tactic.hygienic true
section
open PySem PySem.W PyProof.Rows PySem.Calls Builtin Builtin.ObjectAttr Builtin.Getset_descriptor
set_option autoImplicit false
set_option linter.unusedVariables false
set_option maxRecDepth 100000
section
variable {K:Frag} {cx:CX} {sc:Scope} {n:Nat} {σ:AS} {Q:AV→AS→Prop} {QB:Bool→AS→Prop} {QF:AF→AS→Prop} {E:Value→AS→Prop} {pos:Pos}
theorem ft {C C':Addr} {x:Str} (h:nsIn K bk x=some (some (.ref C))) (h':nsIn K bk x=some (some (.ref C'))):C=C':=by
 rw [h] at h';injection h' with h';injection h' with h';injection h'
theorem gi (g:Fx af K cx sc n) {x:Str} {C:Addr} {np cpos:Pos} {args:List Expr} (hx:sc.names.lookup x=some .globalImplicit) (e:nsIn K bk x=some (some (.ref C)))
  (q:excIn K C [.type "ValueError",.type "Exception",.type "BaseException",.type "object"] "ValueError.__new__"=true) (hd:(x == ("__debug__":Str))=false) (hpl:∀ env,(db cpos (bv args env)).any (·.1)=false)
  (h:fN af w cx cpos args σ (fun l σ₁=>l.length≤aH∧E (.ref C) σ₁) E):jv af w cx (.Raise (some (.Call (.Name x np) args [] cpos)) none pos) σ QF E:=
 AC g.ok g.hh hx e q PySem.F.excBase_ValueError hd hpl h
noncomputable def AV.flat:AV→Bool
 | .none | .bool _ | .int _ | .str _=>true
 |_=>false
theorem nW {a:AV} (h:Q (.bool (match a with | .none=>true|_=>false)) σ) (hf:a.flat=true):de af w cx (bL .Is) a .none σ Q E:=by
 intro s va vb r h1 h2
 rw [show vb = .none from h2]
 cases a with
 |none=>rw [show va = .none from h1];exact wpAny_is_self rfl (dT r dk h)
 |bool b=>rw [show va = .bool b from h1];exact is_none_ne (by intro x;cases x) (dT r dk h)
 |int b=>obtain ⟨t,rfl⟩:=h1;exact is_none_ne (by intro x;cases x) (dT r dk h)
 |str b=>obtain ⟨t,rfl⟩:=h1;exact is_none_ne (by intro x;cases x) (dT r dk h)
 |_=>cases hf
end
end
set_option tactic.hygienic false
section
variable {K:Frag} {cx:CX} {sc:Scope} {n:Nat} {σ:AS} {Q:AV→AS→Prop} {QB:Bool→AS→Prop} {QF:AF→AS→Prop} {E:Value→AS→Prop} {pos:Pos}
noncomputable def yD (v:Int) (e:Nat):Prop:=e≤60∧v≤2 ^ e∧∀ j,j<e→(2:Int) ^ j<v
noncomputable def qJ (K:Frag) (E:Value→AS→Prop) (Q:AV→AS→Prop) (l:List AV) (σ:AS):Prop:=∃ v:Int,l=[.int v]∧((v<1∨2 ^ 60<v)→∀ C,nsIn K bk (aa "NoWish")=some (some (.ref C))→E (.ref C) σ)∧(1≤v→v≤2 ^ 60→∀ e,yD v e→Q (.int (2 ^ e)) σ)
theorem qE {v:Int} (h1:(v<1∨2 ^ 60<v)→∀ C,nsIn K bk (aa "NoWish")=some (some (.ref C))→E (.ref C) σ) (h2:1≤v→v≤2 ^ 60→∀ e,yD v e→Q (.int (2 ^ e)) σ):qJ K E Q [.int v] σ:=⟨v,rfl,h1,h2⟩
noncomputable def tZ (Q:AV→AS→Prop) (l:List AV) (σ:AS):Prop:=∃ v:Int,l=[.int v]∧((v<1∨2 ^ 60<v)→Q (.bool false) σ)∧(1≤v→v≤2 ^ 60→∀ e,yD v e→Q (.bool ((2:Int) ^ e == v)) σ)
theorem Bm {v:Int} (h1:(v<1∨2 ^ 60<v)→Q (.bool false) σ) (h2:1≤v→v≤2 ^ 60→∀ e,yD v e→Q (.bool ((2:Int) ^ e == v)) σ):tZ Q [.int v] σ:=⟨v,rfl,h1,h2⟩
noncomputable def Dbl (x y:Str) (v:Int) (σ₀:AS) (k:Nat) (σ:AS):Prop:=∃ i,k+i=61∧i≤60∧σ.loc x=some (.int (2 ^ i))∧σ.loc y=some (.int v)∧(∀ j,j<i→(2:Int) ^ j<v)∧σ₀.Sub σ
theorem uT {k e:Nat} (h:yD (2 ^ k) e):e=k:=by
 obtain ⟨_,h1,h2⟩:=h
 rcases Nat.lt_trichotomy e k with q|q|q
 ·have:(2:Nat) ^ e<2 ^ k:=Nat.pow_lt_pow_right (by decide) q
  have:(2:Int) ^ e<2 ^ k:=by exact_mod_cast this
  lia
 ·exact q
 ·have:=h2 k q
  lia
theorem gI {e:Nat} (h:e≤60):(2:Int) ^ e≤2 ^ 60:=by
 have:(2:Nat) ^ e≤2 ^ 60:=Nat.pow_le_pow_right (by decide) h
 exact_mod_cast this
theorem dI (e:Nat):(0:Int)<2 ^ e:=Bu (by decide)
theorem rh {s:az} {x C dx:Addr} {fs:List (Str×AV)} (r:R af w cx σ s) (hx:σ.hp x=some (.inst C dx)) (hd:σ.hp dx=some (.attrs fs)):∃ es n,InstAt s.heap x (instObj C dx) C (some (dictOf es n))∧yG w.params s.heap fs es:=by
 obtain ⟨⟨es,n,p,q⟩,_⟩:=r.ob dx _ hd
 exact ⟨es,n,⟨(r.ob x _ hx).1,rfl,rfl,p⟩,q⟩
theorem uV {P:ar} {h:Heap}:∀ {fs:List (Str×AV)} {es:List rS},yG P h fs es→es.any (·.refKey)=false:=by
 intro l9
 induction l9 with
 |nil =>
  rintro _ e
  rw [show _=[] from e];rfl
 |cons q9 r ih9 =>
  obtain ⟨x,a⟩:=q9
  rintro _ ⟨t,v,es',e,_,q⟩
  subst e
  rw [DL,ih9 q]
  rfl
theorem qv {x y:Str} {t:Tok}:(bW x t).isStr y=(x == y):=by
 rfl
theorem rm {P:ar} {h:Heap} {y:Str}:∀ {fs:List (Str×AV)} {es:List rS},yG P h fs es→match fs.lookup y with|some a=>∃ v,getL y es=some (some v)∧VR h a v|none=>getL y es=some none:=by
 intro l9
 induction l9 with
 |nil =>
  rintro _ e
  rw [show _=[] from e];rfl
 |cons q9 r ih9 =>
  obtain ⟨x,a⟩:=q9
  rintro _ ⟨t,v,es',e,hv,q⟩
  subst e
  have ih:=ih9 q
  have hk:=uV q
  rw [b8]
  unfold getL at ih ⊢
  rw [w5,DL]
  show match (match y == x with|true=>some a|false=>r.lookup y) with|some a=>_|none=>_
  have hs:(bW x t).isStr y=(y == x):=by
   rw [qv]
   exact Bool.eq_iff_iff.mpr ⟨fun q=>by rw [beq_iff_eq.mp q];exact beq_self_eq_true _,fun q=>by rw [beq_iff_eq.mp q];exact beq_self_eq_true _⟩
  dsimp only
  rw [hs]
  cases hb:y == x with
  |true=>exact ⟨v,rfl,hv⟩
  |false=>exact ih
noncomputable def AV.plain:AV→Bool | .raw _=>false|_=>true
theorem VR.handed {h:Heap} {a:AV} {v:Value} (p:a.plain=true) (x:VR h a v):handedIn v=true:=by
 cases a with
 |none=>rw [show v = .none from x];rfl
 |bool b=>rw [show v = .bool b from x];rfl
 |int i=>obtain ⟨t,rfl⟩:=x;rfl
 |str i=>obtain ⟨t,rfl⟩:=x;rfl
 |tup l=>obtain ⟨a,vs,rfl,_⟩:=x;rfl
 |ref a=>rw [show v = .ref a from x];rfl
 |raw v=>cases p
theorem Ok.in_ {s:az} (ok:Ok af K cx sc n) (r:R af w cx σ s):K.In s.heap:=fun a o e=>r.stay a o (ok.glo.KX a o e)
inductive rM (K:Frag) (attr:Str) (Q:AV→AS→Prop) (a:AV) (σ₁:AS):Prop
 |mk (x C dx:Addr) (fs:List (Str×AV)) (v:AV) (ca:Option Value) (ha:a = .ref x) (hx:σ₁.hp x=some (.inst C dx)) (hd:σ₁.hp dx=some (.attrs fs)) (h1:plainGet K C attr=true) (h2:hasDictIn K C=true) (h3:findIn K (.ref C) attr=some ca) (h4:noGet K ca=true) (h5:fs.lookup attr=some v) (h6:v.plain=true) (q:Q v σ₁):rM K attr Q a σ₁
inductive BB (af:aV) (w:World) (K:Frag) (cx:CX) (pos:Pos) (args:List Expr) (name:Str) (Q:AV→AS→Prop) (E:Value→AS→Prop) (a:AV) (σ₁:AS):Prop
 |mk (x C dx:Addr) (fs:List (Str×AV)) (f:Addr) (ha:a = .ref x) (hx:σ₁.hp x=some (.inst C dx)) (hd:σ₁.hp dx=some (.attrs fs)) (h1:plainGet K C name=true) (h2:findIn K (.ref C) name=some (some (.ref f))) (h3:isFn K (.ref f)=true) (h4:keepIn K (.ref f)=true) (h5:fs.lookup name=none)
   (q:fN af w cx pos args σ₁ (fun l σ₂=>gd af w cx (.ref f) (.ref x::l) σ₂ Q E) E):BB af w K cx pos args name Q E a σ₁
theorem DY (ok:Ok af K cx sc n) {value:Expr} {attr:Str} (he:∀ env,eval (.Attribute value attr pos) env=(do
   let o ← eval value env
   standAt pos.atName
   let r ← Cz [o] (getAttr o attr true)
   letTemporaryGo value o r
   pure r))
  (h:bZ af w cx value σ (rM K attr Q) E) :
  bZ af w cx (.Attribute value attr pos) σ Q E:=fun s r=>by
 refine Attribute_any_ (ak (h s r) (fun va s₁ zz=>?_) fun ux ux e=>e) (he _)
 obtain ⟨a,σ₁,r₁,v₁,m₁,x,C,dx,fs,v,ca,ha,hx,hd,h1,h2,h3,h4,h5,h6,q₁⟩:=zz
 subst ha
 rw [show va = .ref x from v₁]
 obtain ⟨es,n,I,e⟩:=rh r₁ hx hd
 have:=rm (y:=attr) e
 rw [h5] at this
 obtain ⟨u,hu,hv⟩:=this
 exact get_value (ok.in_ r₁) I (plainGet_of h1).1 (findObj_own h2 h3 h4 hu) (hv.handed h6) ⟨v,σ₁,r₁.tok,hv,m₁,q₁⟩
theorem DX (ok:Ok af K cx sc n) {o:Expr} {name:Str} {apos:Pos} {args:List Expr} {pl:Env→Sem Bool} (he:∀ env,eval (.Call (.Attribute o name apos) args [] pos) env=(do
   let ov ← eval o env
   standAt apos.atName
   let (f,first) ← Cz [ov] (getMethod ov name (pl env))
   kK pos f first (db pos (bv args env)) (ju pos (eN [] env)))) (hpl:∀ env,(db pos (bv args env)).any (·.1)=false)
  (h:bZ af w cx o σ (BB af w K cx pos args name Q E) E):bZ af w cx (.Call (.Attribute o name apos) args [] pos) σ Q E:=fun s r=>by
 refine methodCall_KW (kws:=[]) (pl:=pl cx.env) (ak (h s r) (fun va s₁ zz=>?_) fun ux ux e=>e) (he _)
 obtain ⟨a,σ₁,r₁,v₁,m₁,x,C,dx,fs,f,ha,hx,hd,h1,h2,h3,h4,h5,q₁⟩:=zz
 subst ha
 rw [show va = .ref x from v₁]
 obtain ⟨es,n,I,e⟩:=rh r₁ hx hd
 have hl:=rm (y:=name) e
 rw [h5] at hl
 refine method_fn (ok.in_ r₁) I (plainGet_of h1).1 (plainGet_of h1).2 h2 (beq_iff_eq.mp h3) (by show (lookIn name (dictOf es n)).map _=_;rw [lookIn_dict,hl];rfl) ?_
 refine callWith_of (P:=fun h=>K.In h) (by rw [hpl];rfl) (fun h X=>keeps_K h4 h X) (eK (hpl _) ?_)
 refine ak (q₁ s₁ r₁) (fun vs s₂ zz=>zz.use fun l σ₂ r₂ v₂ m₂ q₂=>⟨ok.in_ r₂,?_⟩) fun ux ux e=>e.mono m₁
 exact ak (q₂ s₂ (.ref x::vs) r₂ ⟨_,_,rfl,di,v₂⟩) (fun ux ux p=>p.mono (m₁.trans m₂)) fun ux ux e=>e.mono (m₁.trans m₂)
noncomputable def pK (h:Heap) (L d:Addr):List (Addr×Obj):=(iR h.objs.size).filterMap fun b=>if b=L∨b=d then none else (h.get? b).map fun o=>(b,o)
theorem uz {h:Heap} {L d b:Addr} {o:Obj} (e:h.get? b=some o) (h1:b≠L) (h2:b≠d):(b,o)∈pK h L d:=by
 unfold pK
 refine bP.mpr ⟨b,List.mem_range.mpr (bq e),?_⟩
 rw [if_neg (by rintro (q|q);exact h1 q;exact h2 q),e]
 rfl
theorem qo {h:Heap} {L d:Addr} {p:Addr×Obj} (m:p∈pK h L d):h.get? p.1=some p.2∧p.1≠L∧p.1≠d:=by
 unfold pK at m
 obtain ⟨b,_,e⟩:=bP.mp m
 split at e
 ·cases e
 ·rename_i q
  obtain ⟨o,ho,rfl⟩:=bT.mp e
  exact ⟨ho,fun z=>q (.inl z),fun z=>q (.inr z)⟩
theorem x8 {P:ar} {h:Heap} {y:Str} {fs:List (Str×AV)} {es:List rS} (e:yG P h fs es):(getL y es).isSome=true:=by
 have:=rm (y:=y) e
 split at this
 ·obtain ⟨v,q,_⟩:=this;rw [q];rfl
 ·rw [this];rfl
noncomputable def ur (fs:List (Str×AV)) (y:Str) (a:AV):List (Str×AV):=match fs with
 |[]=>[(y,a)]
 |(x,b)::r=>if x == y then (x,a)::r else (x,b)::ur r y a
theorem wR {P:ar} {h:Heap} {y:Str} {a:AV} {v:Value} {t:Tok} (hv:VR h a v):∀ {fs:List (Str×AV)} {es:List rS},yG P h fs es→yG P h (ur fs y a) (putL y (yz.keyHash P y) (.str y t) v es)
 |[],_,e=>by rw [show _=[] from e];exact ⟨t,v,[],rfl,hv,rfl⟩
 |(x,b)::r,_,⟨t',u,es',e,hb,q⟩=>by
  subst e
  unfold ur putL
  dsimp only
  rw [qv]
  split
  ·exact ⟨t',v,es',rfl,hv,q⟩
  ·exact ⟨t',u,_,rfl,hb,wR hv q⟩
theorem CZ {P:ar} {h:Heap}:∀ {fs:List (Str×AV)} {es:List rS},yG P h fs es→es.length=fs.length:=by
 intro l9
 induction l9 with
 |nil =>
  rintro _ e
  rw [show _=[] from e];rfl
 |cons q9 r ih9 =>
  obtain ⟨x,b⟩:=q9
  rintro _ ⟨t',u,es',e,hb,q⟩
  subst e;rw [bj,bj,ih9 q]
inductive wZ (K:Frag) (attr:Str) (QF:AF→AS→Prop) (v a:AV) (σ₂:AS):Prop
 |mk (x C dx:Addr) (fs:List (Str×AV)) (ha:a = .ref x) (hx:σ₂.hp x=some (.inst C dx)) (hd:σ₂.hp dx=some (.attrs fs)) (h1:findIn K (.ref C) "__setattr__"=some (some (.builtin "object.__setattr__"))) (h2:plainOver K C=true) (h3:takerIn K C attr=some none) (h4:hasDictIn K C=true) (h5:(ur fs attr v).length≤1000) (q:QF .next (σ₂.put dx (.attrs (ur fs attr v)))):wZ K attr QF v a σ₂
theorem xb (ok:Ok af K cx sc n) {o:Expr} {attr:Str} {apos:Pos} {value:Expr} (hs:∀ env,g8 value (some (.Attribute o attr apos)) pos.line env=pure false)
  (h:bZ af w cx value σ (fun v σ₁=>bZ af w cx o σ₁ (wZ K attr QF v) E) E):jv af w cx (.Assign [.Attribute o attr apos] value pos) σ QF E:=fun s r=>by
 refine plainObj_wpAny_Assign_Attribute (ak (h s r) (fun vv s₁ zz=>zz.use fun v σ₁ r₁ v₁ m₁ q₁=>ak (q₁ s₁ r₁) (fun va s₂ zz=>?_) fun ux ux e=>e.mono m₁) fun ux ux e=>e) (hs _)
 obtain ⟨a,σ₂,r₂,v₂,m₂,x,C,dx,fs,ha,hx,hd,h1,h2,h3,h4,h5,q₂⟩:=zz
 subst ha
 rw [show va = .ref x from v₂]
 obtain ⟨es,n,I,e⟩:=rh r₂ hx hd
 obtain ⟨m,hm⟩:=r₂.ns
 have hdx:s₂.heap.get? dx=some (dictOf es n):=I.dict
 have ne:dx≠cx.env.locals:=fun q=>(r₂.ob dx _ hd).2.2.2.1 (.inl q)
 have v₁':=v₁.mono m₂
 let h₀:Heap:={ s₂.heap with objs:=#[] }
 have hno:∀ b,h₀.get? b=none:=fun b=>by
  cases q:h₀.get? b with
  |none=>rfl
  |some o=>exact absurd (bq q) (w4 _)
 have F:Fr h₀ cx.env.locals s₂.heap m:=⟨hm,fun b o q=>(by rw [hno b] at q;cases q),dw _⟩
 have N:News h₀ cx.env.locals s₂.heap ([]++(dx,dictOf es n)::pK s₂.heap cx.env.locals dx):=fun p hp=>by
  rcases aQ.mp hp with q|q
  ·subst q;exact ⟨hdx,ne,hno _⟩
  ·obtain ⟨q1,q2,q3⟩:=qo q
   exact ⟨q1,q2,hno _⟩
 have e':=wR (y:=attr) (t:=s₂.toks+1) v₁' e
 refine set_plain (ok.in_ r₂) I h1 (osa_dict (s:={ s₂ with toks:=s₂.toks+1 }) F N (show K.In s₂.heap from ok.in_ r₂) I rfl h2 h3 h4 (by rw [lookIn_dict];exact x8 e) (fun ux q=>nomatch q) (fun p hp=>(qo hp).2.2)
  (putName_dict ..) rfl (by rw [CZ e'];exact h5) fun h' F' N'=>?_)
 obtain ⟨r₃,m₃⟩:=r₂.upd2 (h':=h') (tk:=s₂.toks+1+1) (ao':=.attrs (ur fs attr v)) hd rfl (fun b o b1 b2 eb=>(N' (b,o) (.tail _ (uz eb b2 b1))).1) (fun m' hm'=>by
   have:m'=m:=by
    obtain ⟨o1,e1,p1,f1,f2,f3,f4⟩:=hm'
    obtain ⟨o2,e2,p2,g1,g2,g3,g4⟩:=hm
    rw [f1] at g1;cases g1;rw [f2] at g2;cases g2
    funext z;rw [← f4 z,← g4 z]
   rw [this];exact F'.ns) fun vm=>⟨_,_,(N' (dx,_) (.head _)).1,e'.mono vm⟩
 exact ⟨.next,_,r₃,rfl,(m₁.trans m₂).trans m₃,q₂⟩
noncomputable def CX.withA (cx:CX) (A:dM):CX:={ cx with A:=A }
theorem R.withA {s:az} {A:dM} (r:R af w cx σ s):R af w (cx.withA A) σ s:=⟨r.1,r.2,r.3,r.4,r.5,r.6,r.7,r.8,r.9,r.10,r.11,r.12,r.13⟩
theorem R.unA {s:az} {A:dM} (r:R af w (cx.withA A) σ s):R af w cx σ s:=⟨r.1,r.2,r.3,r.4,r.5,r.6,r.7,r.8,r.9,r.10,r.11,r.12,r.13⟩
theorem dh.unA {s s':az} {A:dM} {v:Value} (h:dh af w (cx.withA A) s E v s'):dh af w cx s E v s':=
 let ⟨e,C,σ',s₀,L,a,b,c,d,f,g,i⟩:=h;⟨e,C,σ',s₀,L,a,b.unA,c,⟨d.1,d.2,d.3,d.4,d.5⟩,f,g,i⟩
theorem xq {C:Addr} {vs:List Value}:(Code.builtin "type.__call__" ⟨.ref C::vs,[]⟩).weight≤4:=by
 exact am rfl
theorem yQ {C:Addr} {vs:List Value}:(Code.builtin "type.__call__" ⟨.ref C::vs,[]⟩).cUnits≤16:=by
 exact am rfl
theorem EU (g:Fx af K cx sc (n+1)) {C fI:Addr} {l:List AV} (hm:makesIn K C=true) (hi:findIn K (.ref C) "__init__"=some (some (.ref fI))) (hf:isFn K (.ref fI)=true)
  (h:∀ cx' x dx,Fx af K cx' sc n→σ.hp x=none→σ.hp dx=none→x≠dx→Fo af w cx' (.ref fI) (.ref x::l) ((σ.put dx (.attrs [])).put x (.inst C dx)) (fun v σ'=>v = .none∧Q (.ref x) σ') E):gd af w cx (.ref C) l σ Q E:=fun s vs r hv=>by
 obtain ⟨hh,gn,d,t,os⟩:=s
 have X:K.In hh:=g.ok.in_ r
 refine wpAny_call (make_core (makes_of X hm) (looks_findIn X hi) (fun self=>bind_fn X self (beq_iff_eq.mp hf)) (.inl rfl) ?_)
 have k1:∀ b o,hh.get? b=some o→(hh.push j9).get? b=some o:=fun b o e=>aq _ e
 have k2:∀ b o,(hh.push j9).get? b=some o→((hh.push j9).push (instObj C hh.objs.size)).get? b=some o:=fun b o e=>aq _ e
 have sz:(hh.push j9).objs.size=hh.objs.size+1:=Heap.size_push ..
 have n2:(hh.push j9).get? (hh.objs.size+1)=none:=by have:=cE (hh.push j9);rw [sz] at this;exact this
 have r₁:R af w cx (σ.put hh.objs.size (.attrs [])) ⟨hh.push j9,gn,d,t,os⟩:=r.new (tk:=t) (ao:=.attrs []) (cE _) k1 ⟨[],0,aS _ rfl,rfl⟩
 have r₂:R af w cx ((σ.put hh.objs.size (.attrs [])).put (hh.objs.size+1) (.inst C hh.objs.size)) ⟨(hh.push j9).push (instObj C hh.objs.size),gn,d,t,os⟩:=
  r₁.new (tk:=t) (ao:=.inst C hh.objs.size) n2 k2 (by show ((hh.push j9).push _).get? (hh.objs.size+1)=_;have:=aS (hh.push j9) (o:=instObj C hh.objs.size) rfl;rw [sz] at this;exact this)
 have vm:VM hh ((hh.push j9).push (instObj C hh.objs.size)):=VM.of_keeps fun b o e=>k2 b o (k1 b o e)
 have f1:σ.hp hh.objs.size=none:=by
  cases q:σ.hp hh.objs.size with
  |none=>rfl
  |some ao=>exact absurd q ((Off.new r (cE _)).hp ao)
 have f2:σ.hp (hh.objs.size+1)=none:=by
  cases q:σ.hp (hh.objs.size+1) with
  |none=>rfl
  |some ao =>
   obtain ⟨o,ho,_⟩:=(r.ob _ ao q).1.there
   exact absurd (bq ho) (by show ¬ (hh.objs.size+1<hh.objs.size);lia)
 have g':Fx af K (cx.withA (cx.A.under (.builtin "type.__call__" ⟨.ref C::vs,[]⟩))) sc n:=by
  have hw:=xq (C:=C) (vs:=vs)
  have hu:=yQ (C:=C) (vs:=vs)
  have ok:=g.ok
  refine ⟨⟨ok.glo,?_,ok.scope,ok.kind,ok.frame,ok.glob,ok.bi,ok.fgen,ok.fco,ok.fglob,ok.fbi,ok.fkind,?_,?_,ok.inj,ok.ck,ok.cc⟩,g.fe,g.hh⟩
  ·exact ok.fr
  ·have:=ok.depth
   show cx.A.depth+_+4 * n+140<_
   lia
  ·have:=ok.units
   show cx.A.units+_+16 * n+200<_
   lia
 refine codeAny_mono (h _ (hh.objs.size+1) hh.objs.size g' f2 f1 (Nat.succ_ne_self _) _ (.ref (hh.objs.size+1)::vs) r₂.withA ⟨_,_,rfl,di,hv.mono vm⟩) fun res s' p=>?_
 match res,p with
 | .ok (.ret v),p =>
  obtain ⟨b,σ',r',v',m',hb,q⟩:=p
  subst hb
  exact ⟨v',_,σ',r'.unA,di,vm.trans m',q⟩
 | .error e,p=>exact (dh.unA p).mono vm
theorem p8.length:∀ {d:List (Int×Int)} {kvs:List (Int×Value)},p8 d kvs→kvs.length=d.length
 |[],_,e=>by rw [show _=[] from e];rfl
 |(i,a)::r,_,⟨t,kvs',e,q⟩=>by subst e;rw [bj,bj,q.length]
theorem p8.get {k:Int}:∀ {d:List (Int×Int)} {kvs:List (Int×Value)},p8 d kvs→match du d k with|some a=>∃ t,valueAt kvs k=some (.int a t)|none=>valueAt kvs k=none:=by
 intro l9
 induction l9 with
 |nil =>
  rintro _ e
  rw [show _=[] from e];rfl
 |cons q9 r ih9 =>
  obtain ⟨i,a⟩:=q9
  rintro _ ⟨t,kvs',e,q⟩
  subst e
  have ih:=ih9 q
  unfold du valueAt at *
  rw [w5,w5]
  by_cases h:i=k
  ·rw [decide_eq_true h];exact ⟨t,rfl⟩
  ·rw [decide_eq_false h];exact ih
theorem p8.del {k:Int}:∀ {d:List (Int×Int)} {kvs:List (Int×Value)},p8 d kvs→p8 (dS d k) (without kvs k):=by
 intro l9
 induction l9 with
 |nil =>
  rintro _ e
  rw [show _=[] from e];rfl
 |cons q9 r ih9 =>
  obtain ⟨i,a⟩:=q9
  rintro _ ⟨t,kvs',e,q⟩
  subst e
  have ih:=ih9 q
  unfold dS without at *
  rw [cj,cj]
  by_cases h:i=k
  ·rw [if_neg (by simpa using h),if_neg (by simpa using h)];exact ih
  ·rw [if_pos (by simpa using h),if_pos (by simpa using h)];exact ⟨t,_,rfl,ih⟩
theorem p8.snoc {k v:Int} {t:Tok}:∀ {d:List (Int×Int)} {kvs:List (Int×Value)},p8 d kvs→p8 (d++[(k,v)]) (kvs++[(k,.int v t)])
 |[],_,e=>by rw [show _=[] from e];exact ⟨t,[],rfl,rfl⟩
 |(i,a)::r,_,⟨t',kvs',e,q⟩=>by subst e;exact ⟨t',_,rfl,q.snoc⟩
theorem p8.map {k v:Int} {t:Tok}:∀ {d:List (Int×Int)} {kvs:List (Int×Value)},p8 d kvs→p8 (d.map fun p=>if p.1=k then (p.1,v) else p) (kvs.map fun kv=>if kv.1=k then (kv.1,.int v t) else kv):=by
 intro l9
 induction l9 with
 |nil =>
  rintro _ e
  rw [show _=[] from e];rfl
 |cons q9 r ih9 =>
  obtain ⟨i,a⟩:=q9
  rintro _ ⟨t',kvs',e,q⟩
  subst e
  have ih:=ih9 q
  rw [aM,aM]
  by_cases h:i=k
  ·rw [if_pos h,if_pos h];exact ⟨t,_,rfl,ih⟩
  ·rw [if_neg h,if_neg h];exact ⟨t',_,rfl,ih⟩
theorem p8.any {k:Int}:∀ {d:List (Int×Int)} {kvs:List (Int×Value)},p8 d kvs→kvs.any (fun kv=>decide (kv.1=k))=d.any (fun p=>decide (p.1=k))
 |[],_,e=>by rw [show _=[] from e];rfl
 |(i,a)::r,_,⟨t',kvs',e,q⟩=>by subst e;rw [DL,DL,q.any]
theorem p8.put {k v:Int} {t:Tok} {d:List (Int×Int)} {kvs:List (Int×Value)} (x:p8 d kvs):p8 (iH d k v) (stored kvs k (.int v t)):=by
 unfold iH stored
 rw [x.any]
 split
 ·exact x.map
 ·exact x.snoc
theorem iy {k:Int} {t:Tok}:(intKind af w).is k (.int k t)=true:=by
 show Value.isInt k (.int k t)=true
 simp [Value.isInt]
theorem g9 {value slice:Expr} {x:Addr} {d:List (Int×Int)} {k v:Int} (hx:σ.hp x=some (.dict d)) (hk:du d k=some v) (h:Q (.int v) σ)
  (hs:∀ o i,eA slice false o i=mF [o,i] (lC o i)):de af w cx (cO value slice) (.ref x) (.int k) σ Q E:=by
 rintro s va _ r q0 ⟨t,rfl⟩
 rw [show va = .ref x from q0]
 obtain ⟨⟨kvs,hd,kv,lo⟩,_⟩:=r.ob x _ hx
 have:=kv.get (k:=k)
 rw [hk] at this
 obtain ⟨t',ht⟩:=this
 exact subscriptTail_builtin_flat hd.typeIs slot_dict_getitem.lookup (wpAny_getItem_of iy hd.mapOf ht ⟨by simp,j8 r cQ h⟩) (hs _ _)
theorem kH {x:Addr} {d:List (Int×Int)} {k:Int} (hx:σ.hp x=some (.dict d)) (h:Q (.bool (!(du d k).isSome)) σ):de af w cx (bL .NotIn) (.int k) (.ref x) σ Q E:=by
 rintro s _ vb r ⟨t,rfl⟩ q0
 rw [show vb = .ref x from q0]
 obtain ⟨⟨kvs,hd,kv,lo⟩,_⟩:=r.ob x _ hx
 refine wpAny_notIn_of iy lo hd.mapOf ?_
 have:=kv.get (k:=k)
 have e:(valueAt kvs k).isSome=(du d k).isSome:=by
  cases q:du d k with
  |none=>rw [q] at this;rw [this];rfl
  |some a=>rw [q] at this;obtain ⟨t',ht⟩:=this;rw [ht];rfl
 rw [e]
 exact j8 r dk h
theorem f9 {x:Addr} {d:List (Int×Int)} {k v:Int} {Q:Unit→AS→Prop} (hx:σ.hp x=some (.dict d)) (hz:d.length≤aH) (h:Q () (σ.put x (.dict (iH d k v)))):Dk af w cx (setItem) (.ref x) (.int k) (.int v) σ Q E:=by
 rintro s va _ _ r q0 ⟨t,rfl⟩ ⟨t',rfl⟩
 rw [show va = .ref x from q0]
 obtain ⟨⟨kvs,hd,kv,lo⟩,_⟩:=r.ob x _ hx
 refine wpAny_setItem_pairs iy hd (fun h' hd' hs'=>?_) (by rw [kv.length];exact hz)
 obtain ⟨r',m'⟩:=r.upd (h':=h') (tk:=s.toks+1) (ao':=.dict (iH d k v)) hx rfl (fun b o hb e=>(hs'.2 b hb).trans e) fun ux=>⟨_,hd',kv.put,lo⟩
 exact ⟨(),_,r',trivial,m',h⟩
theorem eP {o i value:Expr} {spos:Pos} (hs:∀ env,g8 value (some (.Subscript o i spos)) pos.line env=pure false)
  (h:bZ af w cx value σ (fun v σ₁=>bZ af w cx o σ₁ (fun a σ₂=>bZ af w cx i σ₂ (fun b σ₃=>Dk af w cx setItem a b v σ₃ (fun ux σ₄=>QF .next σ₄) E) E) E) E):jv af w cx (.Assign [.Subscript o i spos] value pos) σ QF E:=fun s r=>by
 refine wpAny_Assign_Subscript (ak (h s r) (fun vv s₁ zz=>zz.use fun v σ₁ r₁ v₁ m₁ q₁=>ak (q₁ s₁ r₁) (fun va s₂ zz=>zz.use fun a σ₂ r₂ v₂ m₂ q₂=>ak (q₂ s₂ r₂) (fun vb s₃ zz=>zz.use fun b σ₃ r₃ v₃ m₃ q₃=>?_) fun ux ux e=>e.mono (m₁.trans m₂)) fun ux ux e=>e.mono m₁) fun ux ux e=>e) (hs _)
 refine ak (q₃ s₃ va vb vv r₃ (v₂.mono m₃) v₃ (v₁.mono (m₂.trans m₃))) (fun ux s₄ zz=>zz.use fun ux σ₄ r₄ ux m₄ q₄=>⟨.next,σ₄,r₄,rfl,((m₁.trans m₂).trans m₃).trans m₄,q₄⟩) fun ux ux e=>e.mono ((m₁.trans m₂).trans m₃)
noncomputable def AO.type:AO→Option String
 | .list _=>some "list"
 | .dict _=>some "dict"
 |_=>none
theorem Di {s:az} {x:Addr} {ao:AO} {T:String} (r:R af w cx σ s) (hx:σ.hp x=some ao) (ht:ao.type=some T):s.TypeIs (.ref x) T∧∃ ob,s.heap.get? x=some ob∧ob.dict=none:=by
 cases ao with
 |list l=>cases ht;obtain ⟨⟨vs,⟨n,p⟩,q⟩,_⟩:=r.ob x _ hx;exact ⟨⟨_,p,rfl⟩,_,p,rfl⟩
 |dict d=>cases ht;obtain ⟨⟨kvs,hd,kv,lo⟩,_⟩:=r.ob x _ hx;exact ⟨hd.typeIs,hd.mapOf.noDict x rfl⟩
 |_=>cases ht
inductive pO (af:aV) (w:World) (cx:CX) (pos:Pos) (args:List Expr) (name:Str) (Q:AV→AS→Prop) (E:Value→AS→Prop) (a:AV) (σ₁:AS):Prop
 |mk (x:Addr) (ao:AO) (T id:String) (ha:a = .ref x) (hx:σ₁.hp x=some ao) (ht:ao.type=some T) (pa:PlainAttrs T) (sl:Slot T name id) (ty:typeOf (.builtin id)=pure (.type "method_descriptor")) (q:fN af w cx pos args σ₁ (fun l σ₂=>gd af w cx (.builtin id) (.ref x::l) σ₂ Q E) E):pO af w cx pos args name Q E a σ₁
theorem BW {o:Expr} {name:Str} {apos:Pos} {args:List Expr} (hbase:∀ env,attributeBase o name env (eval o env)=eval o env)
  (hfew:∀ env,((db pos (bv args env)).all (fun x=>!x.1) && (ju pos (eN [] env)).all (fun x=>x.1.isSome) && decide (args.length+([]:List Keyword).length+(if ([]:List Keyword).isEmpty then 0 else 1)<30))=true)
  (hline:(apos.endLine == pos.line)=true) (hpl:∀ env,(db pos (bv args env)).any (·.1)=false)
  (h:bZ af w cx o σ (pO af w cx pos args name Q E) E) :
  bZ af w cx (.Call (.Attribute o name apos) args [] pos) σ Q E:=fun s r=>by
 refine wpAny_Call_method_lateS (hbase _) (hfew _) hline (ak (h s r) (fun va s₁ zz=>?_) fun ux ux e=>e)
 obtain ⟨a,σ₁,r₁,v₁,m₁,x,ao,T,id,ha,hx,ht,pa,sl,ty,q₁⟩:=zz
 subst ha
 rw [show va = .ref x from v₁]
 obtain ⟨t1,t2⟩:=Di r₁ hx ht
 refine ⟨T,id,pa,sl,ty,t1,fun a ha=>(by injection ha with ha;rw [← ha];exact t2),?_⟩
 refine PySem.Calls.callWith_builtin (hpl _) (eK (hpl _) ?_)
 refine ak (q₁ s₁ r₁) (fun vs s₂ zz=>zz.use fun l σ₂ r₂ v₂ m₂ q₂=>?_) fun ux ux e=>e.mono m₁
 exact ak (q₂ s₂ (.ref x::vs) r₂ ⟨_,_,rfl,di,v₂⟩) (fun ux ux p=>p.mono (m₁.trans m₂)) fun ux ux e=>e.mono (m₁.trans m₂)
theorem yq {x:Addr} {l:List AV} {a:AV} (hx:σ.hp x=some (.list l)) (hz:l.length≤aH) (h:Q .none (σ.put x (.list (l++[a])))):gd af w cx (.builtin "list.append") [.ref x,a] σ Q E:=fun s vs r hv=>by
 obtain ⟨v,u,rfl,p,q⟩:=r5 hv
 rw [show v = .ref x from p]
 obtain ⟨⟨ws,pl,qs⟩,_⟩:=r.ob x _ hx
 refine wpAny_list_append_plain pl (fun h' pl' hs'=>?_) (by rw [cm,qs.length];exact hz)
 obtain ⟨r',m'⟩:=r.upd (h':=h') (tk:=s.toks) (ao':=.list (l++[a])) hx rfl (fun b o hb e=>(hs'.2 b hb).trans e) fun vm=>⟨ws++[u],by simpa using pl',(qs.mono vm).snoc (q.mono vm)⟩
 exact ⟨.none,_,r',jC,m',h⟩
theorem rx {x:Addr} {d:List (Int×Int)} {k v:Int} (hx:σ.hp x=some (.dict d)) (hz:d.length≤aH) (hk:du d k=some v) (h:Q (.int v) (σ.put x (.dict (dS d k)))):gd af w cx (.builtin "dict.pop") [.ref x,.int k] σ Q E:=fun s vs r hv=>by
 obtain ⟨va,u,rfl,p,⟨t,rfl⟩⟩:=r5 hv
 rw [show va = .ref x from p]
 obtain ⟨⟨kvs,hd,kv,lo⟩,_⟩:=r.ob x _ hx
 have:=kv.get (k:=k)
 rw [hk] at this
 obtain ⟨t',ht⟩:=this
 refine call_meetsIn PySem.F.slot_dict_pop hd.typeIs PySem.F.entry_dict_pop (PySem.F.args_dict_pop_2 _ _) (meets_dict_pop_there (intKind af w) x iy [] (.inl rfl) rfl) ⟨kvs,_,hd,by rw [kv.length];exact hz,ht,fun h' hd' hs'=>?_⟩
 obtain ⟨r',m'⟩:=r.upd (h':=h') (tk:=s.toks+1) (ao':=.dict (dS d k)) hx rfl (fun b o hb e=>(hs'.2 b hb).trans e) fun ux=>⟨_,hd',kv.del,lo⟩
 exact ⟨.int v,_,r',cQ,m',h⟩
theorem AZ {x:Addr} {d:List (Int×Int)} {k:Int} (hx:σ.hp x=some (.dict d)) (h:Q (match du d k with|some v=> .int v|none=> .none) σ):gd af w cx (.builtin "dict.get") [.ref x,.int k] σ Q E:=fun s vs r hv=>by
 obtain ⟨va,u,rfl,p,⟨t,rfl⟩⟩:=r5 hv
 rw [show va = .ref x from p]
 obtain ⟨⟨kvs,hd,kv,lo⟩,_⟩:=r.ob x _ hx
 refine call_meetsIn PySem.F.slot_dict_get hd.typeIs PySem.F.entry_dict_get (PySem.F.args_dict_get_2 _ _) (meets_dict_get (intKind af w) x iy lo) ⟨_,hd.mapOf,?_⟩
 have:=kv.get (k:=k)
 cases q:du d k with
 |none=>rw [q] at this h;rw [this];exact j8 r jC h
 |some v=>rw [q] at this h;obtain ⟨t',ht⟩:=this;rw [ht];exact j8 r cQ h
theorem low {s:az} (ok:Ok af K cx sc n) (r:R af w cx σ s):(s.heap.objs.size == sysModules)=false:=
 beq_eq_false_iff_ne.mpr (d7 (modules_low (ok.glo.nolimit.keeps r.stay)))
theorem gq {s:az} (r:R af w cx σ s):σ.hp s.heap.objs.size=none:=by
 cases q:σ.hp s.heap.objs.size with
 |none=>rfl
 |some ao=>exact absurd q ((Off.new r (cE _)).hp ao)
theorem vI (ok:Ok af K cx sc n) (h:∀ x,σ.hp x=none→Q (.ref x) (σ.put x (.dict []))):bZ af w cx (.Dict [] [] pos) σ Q E:=fun s r=>by
 have kp:∀ b o,s.heap.get? b=some o→(s.heap.push { cls:=.type "dict",data:=.dict #[] }).get? b=some o:=fun b o e=>aq _ e
 exact wpAny_Dict_empty ⟨.ref _,_,r.new (tk:=s.toks) (ao:=.dict []) (cE _) kp ⟨[],Heap.DictOf.new _,rfl,low ok r⟩,di,VM.of_keeps kp,h _ (gq r)⟩
theorem BX (ok:Ok af K cx sc n) {k v:Expr} (h:∀ x,σ.hp x=none→bZ af w cx k (σ.put x (.dict [])) (fun a σ₁=>bZ af w cx v σ₁ (fun b σ₂=>∃ i j,a = .int i∧b = .int j∧σ₂.hp x=some (.dict [])∧Q (.ref x) (σ₂.put x (.dict [(i,j)]))) E) E) :
  bZ af w cx (.Dict [some k] [v] pos) σ Q E:=fun s r=>by
 have kp:∀ b o,s.heap.get? b=some o→(s.heap.push { cls:=.type "dict",data:=.dict #[] }).get? b=some o:=fun b o e=>aq _ e
 have vm:=VM.of_keeps kp
 have r₀:R af w cx (σ.put s.heap.objs.size (.dict [])) { s with heap:=s.heap.push { cls:=.type "dict",data:=.dict #[] } }:=r.new (tk:=s.toks) (ao:=.dict []) (cE _) kp ⟨[],Heap.DictOf.new _,rfl,low ok r⟩
 refine wpAny_Dict_walk (knd:=intKind af w) rfl rfl (by simp) (am rfl) ?_
 refine evalPairs_cons (ak (h _ (gq r) _ r₀) (fun va s₁ zz=>zz.use fun a σ₁ r₁ v₁ m₁ q₁=>?_) fun ux ux e=>e.mono vm)
 refine ag (ak (q₁ s₁ r₁) (fun vb s₂ ⟨b,σ₂,r₂,v₂,m₂,i,j,ha,hb,hx,q₂⟩=>ag (oF (aB ?_))) fun ux ux e=>(e.mono m₁).mono vm)
 subst ha hb
 obtain ⟨t,rfl⟩:=v₁
 obtain ⟨t',rfl⟩:=v₂
 refine evalPairs_nil ?_
 obtain ⟨⟨kvs,hd,kv,lo⟩,_⟩:=r₂.ob _ _ hx
 rw [show kvs=[] from kv] at hd
 refine ⟨[(i,.int j t')],⟨iy,rfl,trivial⟩,hd,fun h' hd' hs'=>?_⟩
 obtain ⟨r',m'⟩:=r₂.upd (h':=h') (tk:=s₂.toks+[(Value.int i t,Value.int j t')].length) (ao':=.dict [(i,j)]) hx rfl (fun b o hb e=>(hs'.2 b hb).trans e) fun ux=>⟨_,hd',⟨t',[],rfl,rfl⟩,lo⟩
 exact ⟨.ref _,_,r',di,((vm.trans m₁).trans m₂).trans m',q₂⟩
theorem rY {h:Heap}:∀ {d:List (Int×Int)} {kvs:List (Int×Value)} {vs:List Value},p8 d kvs→vs.length=kvs.length→(∀ (j:Nat) v,vs[j]?=some v→∃ k x,kvs[j]?=some (k,x)∧(intKind af w).is k v=true)→iM h (d.map fun p=> .int p.1) vs:=by
 intro l9
 induction l9 with
 |nil =>
  rintro _ vs e hl _
  rw [show _=[] from e] at hl
  exact List.length_eq_zero_iff.mp hl
 |cons q9 r ih9 =>
  obtain ⟨i,a⟩:=q9
  rintro _ vs ⟨t,kvs',e,q⟩ hl hp
  subst e
  cases vs with
  |nil=>cases hl
  |cons v vs =>
   obtain ⟨k,x,h1,h2⟩:=hp 0 v rfl
   cases h1
   obtain ⟨t',rfl⟩:=Value.isInt_shape (show Value.isInt i v=true from h2)
   exact ⟨_,vs,rfl,cQ,ih9 q (by simpa using hl) fun j v e=>hp (j+1) v e⟩
theorem ry (g:Fx af K cx sc n) {x:Addr} {d:List (Int×Int)} (hx:σ.hp x=some (.dict d)) (hz:d.length≤aH) (h:∀ y,σ.hp y=none→Q (.ref y) (σ.put y (.list (d.map fun p=> .int p.1)))):gd af w cx (.type "list") [.ref x] σ Q E:=fun s vs r hv=>by
 obtain ⟨va,rfl,p⟩:=ke hv
 rw [show va = .ref x from p]
 obtain ⟨⟨kvs,hd,kv,lo⟩,_⟩:=r.ob x _ hx
 obtain ⟨o,es,ep,d1,d2,d3,d4⟩:=id hd
 refine kdl_call (kdl_dict (knd:=intKind af w) (kvs:=kvs) (ep:=ep) lo) g.hh ?_ (by rw [kv.length];exact hz) fun h' tk acc c k hl hi=>?_
 ·exact ⟨o,es,d1,d2,d3,d4⟩
 ·have vm:=VM.of_keeps k
  refine ⟨.ref _,_,r.new (tk:=tk) (ao:=.list (d.map fun p=> .int p.1)) (cE _) k ⟨acc.toList,⟨c,by simpa using hl⟩,?_⟩,di,vm,h _ (gq r)⟩
  exact rY kv (by rw [aD];exact hi.1) fun j v e=>hi.2 j v (by rw [← bG];exact e)
theorem gu {x:Addr} {l:List AV} (hx:σ.lst x l) (hz:l.length≤aH) (h:∀ y,σ.hp y=none→Q (.ref y) (σ.put y (.list l))):gd af w cx (.type "list") [.ref x] σ Q E:=fun s vs r hv=>by
 obtain ⟨va,rfl,p⟩:=ke hv
 rw [show va = .ref x from p]
 obtain ⟨us,⟨o,h1,h2,m,h3⟩,q⟩:=r.lst hx
 refine call_list_seq x (.inl rfl) h1 h2 h3 (fun h' c k hl=>?_) (by rw [cm,q.length];exact hz)
 have vm:=VM.of_keeps k
 exact ⟨.ref _,_,r.new (tk:=s.toks) (ao:=.list l) (cE _) k ⟨us,⟨c,hl⟩,q.mono vm⟩,di,vm,h _ (gq r)⟩
theorem rZ {h:Heap}:∀ {ns:List Int} {vs:List Value},iM h (ns.map AV.int) vs→vs.map fy=ns∧∀ v∈vs,∃ i t,v = .int i t:=by
 intro l9
 induction l9 with
 |nil =>
  rintro _ e
  rw [show _=[] from e];exact ⟨rfl,fun ux q=>nomatch q⟩
 |cons i ns ih9 =>
  rintro _ ⟨v,r,e,p,q⟩
  obtain ⟨t,rfl⟩:=p
  subst e
  obtain ⟨h1,h2⟩:=ih9 q
  refine ⟨by rw [aM,h1];rfl,fun v hv=>?_⟩
  rcases aQ.mp hv with q|q
  ·exact ⟨i,t,q⟩
  ·exact h2 v q
theorem pv {h:Heap}:∀ {vs:List Value},(∀ v∈vs,∃ i t,v = .int i t)→iM h ((vs.map fy).map AV.int) vs:=by
 intro l9
 induction l9 with
 |nil =>
  rintro _
  exact rfl
 |cons v vs ih9 =>
  rintro hv
  obtain ⟨i,t,rfl⟩:=hv v (.head _)
  exact ⟨_,vs,rfl,cQ,ih9 fun v h=>hv v (.tail _ h)⟩
theorem nI {x:Addr} {ns:List Int} (hx:σ.lst x (ns.map AV.int)) (hz:ns.length≤aH) (h:∀ y (ms:List Int),σ.hp y=none→ms.Perm ns→ms.Pairwise (·≤·)→Q (.ref y) (σ.put y (.list (ms.map AV.int)))):gd af w cx (.builtin "sorted") [.ref x] σ Q E:=fun s vs r hv=>by
 obtain ⟨va,rfl,p⟩:=ke hv
 rw [show va = .ref x from p]
 obtain ⟨us,hl,q⟩:=r.lst hx
 obtain ⟨hk,hi⟩:=rZ q
 have hlen:us.length≤aH:=by rw [q.length,aj];exact hz
 refine ow hl hi hlen fun ws hp hs=>?_
 have kp:∀ b o,s.heap.get? b=some o→(sortedAll s.heap us ws.toArray).get? b=some o:=fun b o e=>sortedAll_old e
 obtain ⟨e,he⟩:=sortedAll_at s.heap us ws.toArray
 have n1:s.heap.get? (s.heap.objs.size+1)=none:=by
  cases q:s.heap.get? (s.heap.objs.size+1) with
  |none=>rfl
  |some o=>exact absurd (bq q) (by show ¬ (s.heap.objs.size+1<s.heap.objs.size);lia)
 have wi:∀ v∈ws,∃ i t,v = .int i t:=fun v hv=>hi v (hp.mem_iff.mp hv)
 refine ⟨.ref _,_,r.new (tk:=s.toks) (ao:=.list ((ws.map fy).map AV.int)) n1 kp ⟨ws,⟨e,by simpa using he⟩,pv wi⟩,di,VM.of_keeps kp,h _ (ws.map fy) ?_ ?_ ?_⟩
 ·cases q:σ.hp (s.heap.objs.size+1) with
  |none=>rfl
  |some ao=>exact absurd q ((Off.new r n1).hp ao)
 ·rw [← hk];exact hp.map _
 ·rw [cq];exact hs
theorem B7 (ok:Ok af K cx sc n) {x:Str} {a:AV} {Q:Unit→AS→Prop} (hx:sc.names.lookup x=some .cell) (h:Q () (σ.set x a)):WSt af w cx (storeName cx.env x) a σ Q E:=fun s va r hv=>by
 have hk:cx.env.kindOf x=some .cell:=by unfold tR;rw [ok.scope];exact hx
 have hkd:cx.env.scope.kind = .function:=by rw [ok.scope];exact ok.kind
 obtain ⟨c,hc⟩:=bU.mp (ok.cc x hx)
 obtain ⟨c1,⟨o,v,c2,c3⟩,c4⟩:=r.cel x c hc
 refine wpAny_storeName_cell hkd hk hc ⟨o,c2,c3⟩ fun h' ⟨o',d1,d2⟩ hs=>?_
 have vm:VM s.heap h':=fun b o' xs n e ux d=>⟨o'.slots,(hs.2 b (fun q=>by subst q;rw [c2] at e;cases e;rw [c3] at d;cases d)).trans e⟩
 obtain ⟨r',_⟩:=r.ownSet (σ':=σ.set x a) (tk:=s.toks) (.inr ⟨x,hc⟩) hs c2 d1 (by intro xs n;rw [c3];simp) (by intro _ vs;rw [d2];simp) (by obtain ⟨m,hm⟩:=r.ns;exact ⟨m,hm.sameBut hs (bl c1)⟩) (fun y c' e=>by
   by_cases q:c'=c
   ·subst q;exact ⟨o',_,d1,d2⟩
   ·obtain ⟨_,⟨o2,v2,e1,e2⟩,_⟩:=r.cel y c' e
    exact ⟨o2,v2,(hs.2 c' q).trans e1,e2⟩) (fun y b e=>by
   unfold AS.set at e
   dsimp only at e
   split at e
   ·rename_i q;subst q;cases e
    refine ⟨va,?_,hv.mono vm⟩
    unfold ei;rw [hk];exact ⟨c,o',hc,d1,d2⟩
   ·rename_i q
    obtain ⟨u',l,b⟩:=r.loc y b e
    refine ⟨u',?_,b.mono vm⟩
    unfold ei at l ⊢
    split at l
    ·obtain ⟨m',a1,a2⟩:=l;exact ⟨m',a1.sameBut hs (bl c1),a2⟩
    ·obtain ⟨c',o2,a1,a2,a3⟩:=l
     exact ⟨c',o2,a1,(hs.2 c' fun z=>q (ok.inj _ _ _ a1 (by rw [z];exact hc))).trans a2,a3⟩
    ·obtain ⟨c',o2,a1,a2,a3⟩:=l
     exact ⟨c',o2,a1,(hs.2 c' fun z=>q (ok.inj _ _ _ a1 (by rw [z];exact hc))).trans a2,a3⟩
    ·exact l) rfl
 exact ⟨(),_,r',trivial,vm,h⟩
theorem un (ok:Ok af K cx sc n) {x:Str} {value:Expr} {pos':Pos} {ln:Nat} (hx:sc.names.lookup x=some .cell):g8 value (some (.Name x pos')) ln cx.env=pure false:=by
 have hk:cx.env.kindOf x=some .cell:=by unfold tR;rw [ok.scope];exact hx
 unfold g8
 split
 ·simp [hk,show (yB == iP.local)=false from rfl]
 ·rfl
theorem xd (ok:Ok af K cx sc n) {x:Str} {value:Expr} {pos':Pos} (hx:sc.names.lookup x=some .cell)
  (h:bZ af w cx value σ (fun a σ₁=>QF .next (σ₁.set x a)) E):jv af w cx (.Assign [.Name x pos'] value pos) σ QF E:=fun s r=>by
 refine wpAny_Assign_Name (ak (h s r) (fun v s₁ zz=>zz.use fun a σ₁ r₁ v₁ m₁ q₁=>?_) fun ux ux e=>e) (un ok hx)
 refine ak (B7 (Q:=fun ux σ'=>QF .next σ') ok hx q₁ s₁ v r₁ v₁) (fun ux s₂ zz=>zz.use fun ux σ₂ r₂ ux m₂ q₂=>⟨.next,σ₂,r₂,rfl,m₁.trans m₂,q₂⟩) fun ux ux e=>e.mono m₁
end
set_option tactic.hygienic true
mutual
noncomputable def dataOf:AV→Option yz
 | .none=>some .none
 | .bool b=>some (.bool b)
 | .int i=>some (.int i)
 | .tup l=>(dA l).map .tuple
 | .str _=>none
 | .ref _=>none
 | .raw _=>none
noncomputable def dA:List AV→Option (List yz)
 |[]=>some []
 |a::l=>match dataOf a,dA l with
  |some d,some ds=>some (d::ds)
  |_,_=>none
end
mutual
theorem kj {h:Heap}:∀ {a:AV} {d:yz} {v:Value},dataOf a=some d→VR h a v→∃ as,Reads h v d as
 | .none,d,v,e,x=>by cases e;rw [show v = .none from x];exact ⟨_,.none⟩
 | .bool b,d,v,e,x=>by cases e;rw [show v = .bool b from x];exact ⟨_,.bool b⟩
 | .int i,d,v,e,x=>by cases e;obtain ⟨t,rfl⟩:=x;exact ⟨_,.int i t⟩
 | .tup l,d,v,e,x=>by
  unfold dataOf at e
  obtain ⟨ds,h1,rfl⟩:=bT.mp e
  obtain ⟨a,vs,rfl,⟨o,n,g1,g2,g3⟩,q⟩:=x
  obtain ⟨as,hr⟩:=nj h1 q
  exact ⟨_,.tuple g1 g2 g3 (by simpa using hr)⟩
 | .str _,_,_,e,_=>by cases e
 | .ref _,_,_,e,_=>by cases e
 | .raw _,_,_,e,_=>by cases e
theorem nj {h:Heap}:∀ {l:List AV} {ds:List yz} {vs:List Value},dA l=some ds→iM h l vs→∃ as,ReadsAll h vs ds as
 |[],ds,vs,e,x=>by
  unfold dA at e
  cases e;rw [show vs=[] from x];exact ⟨_,.nil⟩
 |a::l,ds,vs,e,⟨v,r,ev,p,q⟩=>by
  unfold dA at e
  split at e
  ·rename_i d ds' h1 h2
   cases e
   subst ev
   obtain ⟨as,ha⟩:=kj h1 p
   obtain ⟨bs,hb⟩:=nj h2 q
   exact ⟨_,.cons ha hb⟩
  ·cases e
end
section
variable {K:Frag} {cx:CX} {sc:Scope} {n:Nat} {σ:AS} {Q:AV→AS→Prop} {QB:Bool→AS→Prop} {QF:AF→AS→Prop} {E:Value→AS→Prop} {pos:Pos}
theorem iw {s:az} {x:Addr} {l:List AV} {ds:List yz} (r:R af w cx σ s) (hx:σ.lst x l) (hd:dA l=some ds):∃ as,Reads s.heap (.ref x) (.list ds) as:=by
 obtain ⟨vs,⟨o,h1,h2,m,h3⟩,q⟩:=r.lst hx
 obtain ⟨as,ha⟩:=nj hd q
 exact ⟨_,.list h1 h2 h3 (by simpa using ha)⟩
theorem jS (ok:Ok af K cx sc n) {x y:Addr} {l l':List AV} {ds es:List yz} (hx:σ.lst x l) (hy:σ.lst y l') (hd:dA l=some ds) (he:dA l'=some es) (c1:bV ds=true) (c2:bV es=true)
  (hu:min (w0 ds).depth (w0 es).depth≤100) (h:Q (.bool (!PyData.eqvAll ds es)) σ):de af w cx (bL .NotEq) (.ref x) (.ref y) σ Q E:=by
 intro s va vb r p q
 rw [show va = .ref x from p,show vb = .ref y from q]
 obtain ⟨as,ra⟩:=iw r hx hd
 obtain ⟨bs,rb⟩:=iw r hy he
 exact E8 ra rb (by unfold hW;exact c1) (by unfold hW;exact c2) (by have:=ok.units;lia) (by
  have e:jw (.list ds) (.list es)=da ds es:=by unfold jw;rfl
  rw [e];exact dT r dk h)
theorem ru (ok:Ok af K cx sc n) {x y:Addr} {l l':List AV} {ds es:List yz} (hx:σ.lst x l) (hy:σ.lst y l') (hd:dA l=some ds) (he:dA l'=some es) (c1:bV ds=true) (c2:bV es=true)
  (hu:min (w0 ds).depth (w0 es).depth≤100) (h:Q (.bool (da ds es)) σ):de af w cx (bL .Eq) (.ref x) (.ref y) σ Q E:=by
 intro s va vb r p q
 rw [show va = .ref x from p,show vb = .ref y from q]
 obtain ⟨as,ra⟩:=iw r hx hd
 obtain ⟨bs,rb⟩:=iw r hy he
 exact E9 ra rb (by unfold hW;exact c1) (by unfold hW;exact c2) (by have:=ok.units;lia) (by
  have e:jw (.list ds) (.list es)=da ds es:=by unfold jw;rfl
  rw [e];exact dT r dk h)
theorem kI (ok:Ok af K cx sc n) {a b:AV} {d e:yz} (hd:dataOf a=some d) (he:dataOf b=some e) (c1:d.canLay0=true) (c2:e.canLay0=true) (hu:min d.depth e.depth≤100) (h:Q (.bool (!PyData.eqv d e)) σ):de af w cx (bL .NotEq) a b σ Q E:=by
 intro s va vb r p q
 obtain ⟨as,ra⟩:=kj hd p
 obtain ⟨bs,rb⟩:=kj he q
 exact E8 ra rb c1 c2 (by have:=ok.units;lia) (dT r dk h)
theorem tq (ok:Ok af K cx sc n) {a b:AV} {d e:yz} (hd:dataOf a=some d) (he:dataOf b=some e) (c1:d.canLay0=true) (c2:e.canLay0=true) (hu:min d.depth e.depth≤100) (h:Q (.bool (jw d e)) σ):de af w cx (bL .Eq) a b σ Q E:=by
 intro s va vb r p q
 obtain ⟨as,ra⟩:=kj hd p
 obtain ⟨bs,rb⟩:=kj he q
 exact E9 ra rb c1 c2 (by have:=ok.units;lia) (dT r dk h)
noncomputable def eC (p:Int×Int):AV:=.tup [.int p.1,.int p.2]
noncomputable def oM (p:Int×Int):yz:=.tuple [.int p.1,.int p.2]
theorem nD (p:Int×Int):dataOf (eC p)=some (oM p):=by unfold eC oM;simp [dataOf,dA]
theorem fA:∀ ps:List (Int×Int),dA (ps.map eC)=some (ps.map oM)
 |[]=>by simp [dA]
 |p::ps=>by rw [aM,aM];unfold dA;rw [nD,fA ps]
theorem u4 (p:Int×Int):(oM p).canLay0=true:=by unfold oM;simp [hW,bV]
theorem jU:∀ ps:List (Int×Int),bV (ps.map oM)=true
 |[]=>by simp [bV]
 |p::ps=>by rw [aM];unfold bV;rw [u4,jU ps];rfl
theorem pC (p:Int×Int):(oM p).depth=1:=by unfold oM;simp [mZ,fj]
theorem jp:∀ ps:List (Int×Int),fj (ps.map oM)≤1
 |[]=>by simp [fj]
 |p::ps=>by
  rw [aM];unfold fj;rw [pC]
  have:=jp ps
  lia
theorem AI (p q:Int×Int):jw (oM p) (oM q)=decide (p=q):=by
 obtain ⟨a,b⟩:=p
 obtain ⟨c,d⟩:=q
 unfold oM
 simp [jw,da,Prod.ext_iff]
 by_cases h1:a=c <;> by_cases h2:b=d <;> simp [h1,h2]
theorem mT:∀ ps qs:List (Int×Int),da (ps.map oM) (qs.map oM)=decide (ps=qs)
 |[],[]=>by simp [da]
 |[],_::_=>by simp [da]
 |_::_,[]=>by simp [da]
 |p::ps,q::qs=>by
  rw [aM,aM];unfold da;rw [AI,mT ps qs]
  by_cases h1:p=q <;> by_cases h2:ps=qs <;> simp [h1,h2]
theorem pF (ok:Ok af K cx sc n) {x y:Addr} {ps qs:List (Int×Int)} (hx:σ.lst x (ps.map eC)) (hy:σ.lst y (qs.map eC)) (h:Q (.bool (decide (ps=qs))) σ):de af w cx (bL .Eq) (.ref x) (.ref y) σ Q E:=
 ru ok hx hy (fA _) (fA _) (jU _) (jU _) (by unfold mZ;have:=jp ps;lia) (by rw [mT];exact h)
theorem uZ (ok:Ok af K cx sc n) {x y:Addr} {ps qs:List (Int×Int)} (hx:σ.lst x (ps.map eC)) (hy:σ.lst y (qs.map eC)) (h:Q (.bool (!decide (ps=qs))) σ):de af w cx (bL .NotEq) (.ref x) (.ref y) σ Q E:=
 jS ok hx hy (fA _) (fA _) (jU _) (jU _) (by unfold mZ;have:=jp ps;lia) (by rw [mT];exact h)
theorem yp (ok:Ok af K cx sc n) {p q:Int×Int} (h:Q (.bool (!decide (p=q))) σ):de af w cx (bL .NotEq) (eC p) (eC q) σ Q E:=
 kI ok (nD p) (nD q) (u4 p) (u4 q) (by rw [pC,pC];decide) (by rw [AI];exact h)
end
set_option tactic.hygienic false
noncomputable def bY (env:Env):List (Str×iP)→List (Str×Addr)→List (Str×Addr)
 |[],cs=>cs
 |(x,k)::r,cs=>if k == .free then bY env r ((x,(env.cells.lookup x).getD 0)::cs) else bY env r cs
theorem tr {env:Env}:∀ {names:List (Str×iP)} {cs:List (Str×Addr)} {p:Str×Addr},p∈bY env names cs→p∈cs∨(∃ k,(p.1,k)∈names∧k = .free)∧p.2=(env.cells.lookup p.1).getD 0:=by
 intro l9
 induction l9 with
 |nil =>
  rintro cs p h
  exact .inl h
 |cons q9 r ih9 =>
  obtain ⟨x,k⟩:=q9
  rintro cs p h
  unfold bY at h
  split at h
  ·rename_i hk
   rcases ih9 h with q|⟨⟨k',q1,q2⟩,q3⟩
   ·rcases aQ.mp q with q|q
    ·subst q;exact .inr ⟨⟨k,.head _,by simpa using hk⟩,rfl⟩
    ·exact .inl q
   ·exact .inr ⟨⟨k',.tail _ q1,q2⟩,q3⟩
  ·rcases ih9 h with q|⟨⟨k',q1,q2⟩,q3⟩
   ·exact .inl q
   ·exact .inr ⟨⟨k',.tail _ q1,q2⟩,q3⟩
theorem tt {env:Env}:∀ {names:List (Str×iP)} {cs:List (Str×Addr)} {x:Str},((∃ c,(x,c)∈cs)∨(x,.free)∈names)→∃ c,(x,c)∈bY env names cs:=by
 intro l9
 induction l9 with
 |nil =>
  rintro cs x h
  rcases h with ⟨c,h⟩|h
  ·exact ⟨c,h⟩
  ·cases h
 |cons q9 r ih9 =>
  obtain ⟨y,k⟩:=q9
  rintro cs x h
  unfold bY
  split
  ·rename_i hk
   refine ih9 ?_
   rcases h with ⟨c,h⟩|h
   ·exact .inl ⟨c,.tail _ h⟩
   ·rcases aQ.mp h with q|q
    ·injection q with q1 q2;subst q1;exact .inl ⟨_,.head _⟩
    ·exact .inr q
  ·rename_i hk
   refine ih9 ?_
   rcases h with ⟨c,h⟩|h
   ·exact .inl ⟨c,h⟩
   ·rcases aQ.mp h with q|q
    ·injection q with q1 q2;subst q2;exact absurd rfl hk
    ·exact .inr q
theorem l6 {env:Env} {scope:Scope} (h:∀ x∈scope.names,x.2 = .free→(env.cells.lookup x.1).isSome=true):closureFor scope env=pure (bY env scope.names []):=by
 unfold closureFor
 have:∀ (names:List (Str×iP)) (cs:List (Str×Addr)),(∀ x∈names,x.2 = .free→(env.cells.lookup x.1).isSome=true) →
   (do let r ← forIn names cs (fun (x:Str×iP) (r:List (Str×Addr))=>match x with|(name,kind)=>if kind == kQ then (do let a ← cellOf env name;pure (fS ((name,a)::r))) else pure (fS r));(pure r:Sem (List (Str×Addr))))=pure (bY env names cs):=by
  intro names
  induction names with
  |nil=>intro cs _;rfl
  |cons p names ih =>
   obtain ⟨x,k⟩:=p
   intro cs hn
   rw [List.forIn_cons]
   unfold bY
   by_cases hk:(k == .free)=true
   ·rw [if_pos hk]
    obtain ⟨c,hc⟩:=bU.mp (hn (x,k) (.head _) (by simpa using hk))
    have hc:env.cells.lookup x=some c:=hc
    have e:cellOf env x=pure c:=by unfold cellOf;rw [hc]
    simp only [hk,if_true,e]
    rw [hc]
    exact ih _ fun p hp=>hn p (.tail _ hp)
   ·rw [if_neg hk]
    simp only [hk,if_false,bQ]
    exact ih _ fun p hp=>hn p (.tail _ hp)
 have k:=this scope.names [] h
 dsimp only
 erw [k]
 rfl
set_option tactic.hygienic true
section
variable {K:Frag} {cx:CX} {sc:Scope} {n:Nat} {σ:AS}
noncomputable def CX.comp (cx:CX) (scope:Scope) (cl:List (Str×Addr)) (C:Addr) (h:Heap) (I:Addr) (oI:Obj):CX where
 A:=cx.A
 env:=compEnvC scope cl C cx.env
 fenv:=cx.fenv
 outer:=cx.outer
 base:=cx.base
 P:=fun b o=>cx.P b o∨(cx.own b∧b∉cx.frames∧(∀ y,cl.lookup y≠some b)∧h.get? b=some o)∨(b=I∧o=oI)
 N:=fun b m=>cx.N b m∨(b=cx.env.locals∧b∈cx.frames∧h.Ns b m)
 gens:=cx.gens
 drawn:=cx.drawn
 os:=cx.os
noncomputable def AS.compLoc (σ:AS) (cl:List (Str×Addr)) (x:Str) (a:AV):AS:=⟨fun y=>if y=x then some a else if (cl.lookup y).isSome=true then σ.loc y else none,σ.hp⟩
noncomputable def AS.compLocB (σ:AS) (cl:List (Str×Addr)) (bd:Str→Option AV):AS:=⟨fun y=>match bd y with|some a=>some a|none=>if (cl.lookup y).isSome=true then σ.loc y else none,σ.hp⟩
theorem R.enterComp {s:az} {scope:Scope} {cl:List (Str×Addr)} {C I:Addr} {oI:Obj} {bd:Str→Option AV} {m:Str→Option Value} (r:R af w cx σ s) (fI:Off cx σ I) (hI:s.heap.get? I=some oI) (fC:Off cx σ C) (hCI:C≠I)
  (hm:s.heap.Ns C m) (hmx:∀ y a,bd y=some a→∃ v,m y=some v∧VR s.heap a v) (hcl:∀ y c,cl.lookup y=some c→cx.env.cells.lookup y=some c) (hx:∀ y a,bd y=some a→(oK scope cx.env).names.lookup y=some .local)
  (hk:∀ y,(cl.lookup y).isSome=true→(oK scope cx.env).names.lookup y=some .cell∨(oK scope cx.env).names.lookup y=some .free)
  (hck:∀ y c,cx.env.cells.lookup y=some c→cx.env.kindOf y=some .cell∨cx.env.kindOf y=some .free) :
  R af w (cx.comp scope cl C s.heap I oI) (σ.compLocB cl bd) s:=by
 have own':∀ b,(cx.comp scope cl C s.heap I oI).own b→b=C∨∃ y,cl.lookup y=some b:=fun b hb=>hb
 refine ⟨r.stay,r.ff,⟨m,hm⟩,fun y u e=>?_,fun b o e=>?_,fun b m' e=>?_,fun b bo e=>?_,fun b e=>?_,fun y c e=>?_,fun e he hf=>?_,r.gens,r.drawn,r.os⟩
 ·unfold AS.compLocB at e
  dsimp only at e
  split at e
  ·rename_i a hb
   cases e
   obtain ⟨v,h1,h2⟩:=hmx y _ hb
   refine ⟨v,?_,h2⟩
   unfold ei
   rw [show (cx.comp scope cl C s.heap I oI).env.kindOf y=some .local from hx y _ hb]
   exact ⟨m,hm,h1⟩
  ·rename_i q1
   split at e
   ·rename_i q2
    obtain ⟨c,hc⟩:=bU.mp q2
    obtain ⟨u',l,hu⟩:=r.loc y u e
    refine ⟨u',?_,hu⟩
    have hcc:=hcl y c hc
    have body:∃ c o,cx.env.cells.lookup y=some c∧s.heap.get? c=some o∧o.data = .cell (some u'):=by
     unfold ei at l
     rcases hck y c hcc with z|z
     ·rw [z] at l;exact l
     ·rw [z] at l;exact l
    obtain ⟨c',o,h1,h2,h3⟩:=body
    rw [hcc] at h1;cases h1
    unfold ei
    rcases hk y q2 with z|z
    ·rw [show (cx.comp scope cl C s.heap I oI).env.kindOf y=some .cell from z];exact ⟨c,o,hc,h2,h3⟩
    ·rw [show (cx.comp scope cl C s.heap I oI).env.kindOf y=some .free from z];exact ⟨c,o,hc,h2,h3⟩
   ·cases e
 ·rcases e with e|⟨_,e2,_,e4⟩|⟨e1,e2⟩
  ·exact r.pr b o e
  ·exact ⟨e4,e2⟩
  ·subst e1 e2;exact ⟨hI,fI.fr⟩
 ·rcases e with e|⟨_,e2,e3⟩
  ·exact r.pn b m' e
  ·exact ⟨e3,e2⟩
 ·obtain ⟨p,q1,q2,q3,q4⟩:=r.ob b bo e
  refine ⟨p,q1,fun o e'=>?_,fun q=>?_,q4⟩
  ·rcases e' with e'|⟨e1,_⟩|⟨e1,_⟩
   ·exact q2 o e'
   ·exact q3 e1
   ·subst e1;exact fI.hp _ e
  ·rcases own' b q with z|⟨y,z⟩
   ·subst z;exact fC.hp _ e
   ·exact q3 (.inr ⟨y,hcl y b z⟩)
 ·rcases own' b e with z|⟨y,z⟩
  ·subst z
   refine ⟨fC.base,fun o e'=>?_,fun m' e'=>?_⟩
   ·rcases e' with e'|⟨e1,_⟩|⟨e1,_⟩
    ·exact fC.P o e'
    ·exact fC.own e1
    ·exact hCI e1
   ·rcases e' with e'|⟨e1,_⟩
    ·exact fC.fr (r.pn _ _ e').2
    ·exact fC.own (.inl e1)
  ·have ho:cx.own b:=.inr ⟨y,hcl y b z⟩
   obtain ⟨w1,w2,w3⟩:=r.own b ho
   refine ⟨w1,fun o e'=>?_,fun m' e'=>?_⟩
   ·rcases e' with e'|⟨_,_,e3,_⟩|⟨e1,_⟩
    ·exact w2 o e'
    ·exact e3 y z
    ·subst e1;exact fI.own ho
   ·rcases e' with e'|⟨e1,_⟩
    ·exact w3 m' e'
    ·exact (r.cel y b (hcl y b z)).1 e1
 ·have hcc:=hcl y c e
  obtain ⟨c1,c2,c3⟩:=r.cel y c hcc
  exact ⟨fun q=>fC.own (by rw [← (show c=C from q)];exact .inr ⟨y,hcc⟩),c2,c3⟩
 ·exact fC.fr (bP.mpr ⟨e,.tail _ he,hf⟩)
theorem R.leaveComp {s s₂:az} {scope:Scope} {cl:List (Str×Addr)} {C I:Addr} {oI:Obj} {σ₂:AS} (r:R af w cx σ s) (r₂:R af w (cx.comp scope cl C s.heap I oI) σ₂ s₂) (vm:VM s.heap s₂.heap)
  (hcl:∀ y c,cl.lookup y=some c→cx.env.cells.lookup y=some c) (hloc:∀ y,(cl.lookup y).isSome=true→σ₂.loc y=σ.loc y)
  (hinj:∀ x y c,cx.env.cells.lookup x=some c→cx.env.cells.lookup y=some c→x=y)
  (hk:∀ y,(cl.lookup y).isSome=true→(oK scope cx.env).names.lookup y=some .cell∨(oK scope cx.env).names.lookup y=some .free)
  (hck:∀ y c,cx.env.cells.lookup y=some c→cx.env.kindOf y=some .cell∨cx.env.kindOf y=some .free):R af w cx ⟨σ.loc,σ₂.hp⟩ s₂:=by
 have ownIn:∀ a o,cx.own a→s.heap.get? a=some o→a∉cx.frames→(∀ y,cl.lookup y≠some a)→s₂.heap.get? a=some o:=fun a o h1 h2 h3 h4=>(r₂.pr a o (.inr (.inl ⟨h1,h3,h4,h2⟩))).1
 have locNo:∀ y,cl.lookup y≠some cx.env.locals:=fun y q=>(r.cel y _ (hcl y _ q)).1 rfl
 have nsIn:∀ m,s.heap.Ns cx.env.locals m→s₂.heap.Ns cx.env.locals m:=fun m hm=>by
  by_cases hf:cx.env.locals∈cx.frames
  ·exact (r₂.pn _ m (.inr ⟨rfl,hf,hm⟩)).1
  ·obtain ⟨o,es,ep,h1,h2⟩:=hm
   exact ⟨o,es,ep,ownIn _ _ (.inl rfl) h1 hf locNo,h2⟩
 have noFr:∀ x c,cx.env.cells.lookup x=some c→c∉cx.frames:=fun x c h hm=>by obtain ⟨e,he,hf⟩:=dX hm;exact (r.cel x c h).2.2 e he hf
 refine ⟨r₂.stay,r₂.ff,?_,fun x v e=>?_,fun b o e=>?_,fun b m e=>?_,fun a ao e=>?_,r.own,fun x c e=>?_,r.oth,r₂.gens,r₂.drawn,r₂.os⟩
 ·obtain ⟨m,hm⟩:=r.ns;exact ⟨m,nsIn m hm⟩
 ·obtain ⟨u,l,b⟩:=r.loc x v e
  by_cases hc:(cl.lookup x).isSome=true
  ·obtain ⟨u',l',b'⟩:=r₂.loc x v (by rw [hloc x hc];exact e)
   refine ⟨u',?_,b'⟩
   obtain ⟨c,hc'⟩:=bU.mp hc
   have hcc:=hcl x c hc'
   have body:∃ c o,cl.lookup x=some c∧s₂.heap.get? c=some o∧o.data = .cell (some u'):=by
    unfold ei at l'
    rcases hk x hc with z|z
    ·rw [show (cx.comp scope cl C s.heap I oI).env.kindOf x=some .cell from z] at l';exact l'
    ·rw [show (cx.comp scope cl C s.heap I oI).env.kindOf x=some .free from z] at l';exact l'
   obtain ⟨c',o,h1,h2,h3⟩:=body
   rw [hc'] at h1;cases h1
   unfold ei
   rcases hck x c hcc with z|z
   ·rw [z];exact ⟨c,o,hcc,h2,h3⟩
   ·rw [z];exact ⟨c,o,hcc,h2,h3⟩
  ·refine ⟨u,?_,b.mono vm⟩
   have noCl:∀ c,cx.env.cells.lookup x=some c→∀ y,cl.lookup y≠some c:=fun c hc' y q=>hc (by rw [hinj x y c hc' (hcl y c q),q];rfl)
   unfold ei at l ⊢
   split at l
   ·obtain ⟨m,a1,a2⟩:=l;exact ⟨m,nsIn m a1,a2⟩
   ·obtain ⟨c,o,a1,a2,a3⟩:=l;exact ⟨c,o,a1,ownIn c o (.inr ⟨x,a1⟩) a2 (noFr x c a1) (noCl c a1),a3⟩
   ·obtain ⟨c,o,a1,a2,a3⟩:=l;exact ⟨c,o,a1,ownIn c o (.inr ⟨x,a1⟩) a2 (noFr x c a1) (noCl c a1),a3⟩
   ·exact l
 ·exact r₂.pr b o (.inl e)
 ·exact r₂.pn b m (.inl e)
 ·obtain ⟨p,q1,q2,q3,q4⟩:=r₂.ob a ao e
  refine ⟨p,q1,fun o e'=>q2 o (.inl e'),fun hb=>?_,q4⟩
  by_cases hf:a∈cx.frames
  ·obtain ⟨en,he,hf⟩:=dX hf
   exact q4 en he hf
  ·by_cases hcl':∃ y,cl.lookup y=some a
   ·obtain ⟨y,hy⟩:=hcl';exact q3 (.inr ⟨y,hy⟩)
   ·have hno:∀ y,cl.lookup y≠some a:=fun y q=>hcl' ⟨y,q⟩
    rcases hb with q|⟨x,q⟩
    ·obtain ⟨m,hm⟩:=r.ns
     obtain ⟨o,h1,_⟩:=dB hm
     exact q2 o (.inr (.inl ⟨.inl q,hf,hno,by rw [q];exact h1⟩))
    ·obtain ⟨_,⟨o,v,c1,_⟩,_⟩:=r.cel x a q
     exact q2 o (.inr (.inl ⟨.inr ⟨x,q⟩,hf,hno,c1⟩))
 ·obtain ⟨p,⟨o,v,c1,c2⟩,c3⟩:=r.cel x c e
  by_cases hcl':∃ y,cl.lookup y=some c
  ·obtain ⟨y,hy⟩:=hcl'
   exact ⟨p,(r₂.cel y c hy).2.1,c3⟩
  ·exact ⟨p,⟨o,v,ownIn c o (.inr ⟨x,e⟩) c1 (noFr x c e) fun y q=>hcl' ⟨y,q⟩,c2⟩,c3⟩
end
set_option tactic.hygienic false
section
variable {K:Frag} {cx:CX} {sc:Scope} {n:Nat} {σ:AS} {Q:AV→AS→Prop} {QB:Bool→AS→Prop} {QF:AF→AS→Prop} {E:Value→AS→Prop} {pos:Pos}
theorem Co {x D:Addr} {l:List AV} {ao:AO} (h:σ.lst x l) (hD:σ.hp D=none):(σ.put D ao).lst x l:=by
 have ne:x≠D:=fun q=>by subst q;rcases h with h|h <;> (rw [hD] at h;cases h)
 rcases h with h|h
 ·exact .inl (bH ne h)
 ·exact .inr (bH ne h)
noncomputable def Drawn (σ:AS) (v:AV) (l:List AV):Prop:=yC σ (fun σ'=>∃ D ao,σ.hp D=none∧σ'=σ.put D ao) v l
theorem eS {x:Addr} {l:List AV} (h:σ.lst x l):Drawn σ (.ref x) l:=.list h fun σ' ⟨D,ao,hD,e⟩=>by rw [e];exact Co h hD
noncomputable abbrev WTs (af:aV) (w:World) (cx:CX) (ifs:List Expr) (σ:AS) (Q:Bool→AS→Prop) (E:Value→AS→Prop):Prop:=
 Wp af w BR cx (forIn ifs true fun c r=>if r=true then do let ok ← isTrue c cx.env (eval c cx.env);pure (fS ok) else pure (fS r)) σ Q E
theorem i7 (h:QB true σ):WTs af w cx [] σ QB E:=fun s r=>aB (dT (rel:=BR) (b:=true) r rfl h)
theorem qR {c:Expr} (h:og af w cx c σ QB E):WTs af w cx [c] σ QB E:=fun s r=>by
 rw [List.forIn_cons]
 simp only [if_true]
 refine ag (ag (ak (h s r) (fun ok s₁ p=>aB ?_) fun ux ux e=>e))
 exact aB p
noncomputable def iD (scope sc:Scope):Scope:={ scope with names:=scope.names.map fun (n,k)=>if (k == .free && sc.kind == .function && sc.names.lookup n == some .cell) then (n,.cell) else (n,k) }
theorem lW {scope:Scope} {env:Env} (h:env.scope=sc):oK scope env=iD scope sc:=by subst h;rfl
structure jf (scope sc:Scope) (x:Str):Prop where
 kind:scope.kind = .function
 nocell:∀ y∈scope.names,y.2 ≠ .cell
 locs:∀ y∈scope.names,y.2 = .local→scope.names.lookup y.1=some .local
 frees:∀ y∈scope.names,y.2 = .free→scope.names.lookup y.1=some .free
 cells:∀ y∈scope.names,y.2 = .free→sc.names.lookup y.1=some .cell
 x:scope.names.lookup x=some .local
theorem fM {sc:Scope} (hk:sc.kind = .function):∀ {names:List (Str×iP)} {x:Str},names.lookup x=some .free→sc.names.lookup x=some .cell →
  (names.map fun (n,k)=>if (k == kQ && sc.kind == .function && sc.names.lookup n == some .cell) then (n,yB) else (n,k)).lookup x=some .cell
 |[],_,h,_=>by simp at h
 |(n,k)::r,x,h,hc=>by
  have ih:=@fM sc hk r x
  show List.lookup x ((if (k == kQ && sc.kind == .function && sc.names.lookup n == some .cell)=true then (n,yB) else (n,k))::_)=_
  cases hx:x == n with
  |true =>
   simp only [b8,hx] at h
   cases h
   have:x=n:=by simpa using hx
   subst this
   rw [if_pos (by simp [hk,hc])]
   simp [b8]
  |false =>
   simp only [b8,hx] at h
   by_cases hb:(k == kQ && sc.kind == .function && sc.names.lookup n == some .cell)=true
   ·rw [if_pos hb];simp only [b8,hx];exact ih h hc
   ·rw [if_neg hb];simp only [b8,hx];exact ih h hc
noncomputable def AS.comp (σ:AS) (scope:Scope) (x:Str) (a:AV):AS:=⟨fun y=>if y=x then some a else if (scope.names.lookup y == some .free)=true then σ.loc y else none,σ.hp⟩
noncomputable def AS.compB (σ:AS) (scope:Scope) (bd:Str→Option AV):AS:=⟨fun y=>match bd y with|some a=>some a|none=>if (scope.names.lookup y == some .free)=true then σ.loc y else none,σ.hp⟩
noncomputable def mY (x:Str) (a:AV) (y:Str):Option AV:=if y=x then some a else none
theorem AU {scope:Scope} {x:Str} {a:AV}:σ.compB scope (mY x a)=σ.comp scope x a:=by
 unfold AS.comp AS.compB mY
 congr 1
 funext y
 by_cases q:y=x
 ·rw [if_pos q,if_pos q]
 ·rw [if_neg q,if_neg q]
noncomputable def AS.Kept (σ σ':AS):Prop:=σ'.loc=σ.loc∧σ.Sub σ'
theorem AS.Kept.refl (σ:AS):σ.Kept σ:=⟨rfl,fun ux ux e=>e⟩
section
variable {scope:Scope} {x:Str}
theorem nY (ok:Ok af K cx sc n) (cs:jf scope sc x) {y:Str} {c:Addr} (h:(bY cx.env scope.names []).lookup y=some c):cx.env.cells.lookup y=some c∧scope.names.lookup y=some .free:=by
 rcases tr (mem_of_lookup h) with q|⟨⟨k,q1,rfl⟩,q3⟩
 ·cases q
 ·have h1:=cs.cells _ q1 rfl
  obtain ⟨c',hc'⟩:=bU.mp (ok.cc _ h1)
  refine ⟨?_,cs.frees _ q1 rfl⟩
  rw [hc'] at q3 ⊢
  exact congrArg some q3.symm
theorem u3 (cs:jf scope sc x) {y:Str} (h:scope.names.lookup y=some .free):((bY cx.env scope.names []).lookup y).isSome=true:=by
 obtain ⟨c,hc⟩:=tt (env:=cx.env) (cs:=[]) (.inr (mem_of_lookup h))
 cases q:(bY cx.env scope.names []).lookup y with
 |some _=>rfl
 |none =>
  have:=List.lookup_eq_none_iff.mp q _ hc
  simp at this
theorem Ok.comp (ok:Ok af K cx sc n) (cs:jf scope sc x) {C I:Addr} {h:Heap} {oI:Obj}:Ok af K (cx.comp scope (bY cx.env scope.names []) C h I oI) (iD scope sc) n:=by
 have hk:∀ y c,(bY cx.env scope.names []).lookup y=some c→(iD scope sc).names.lookup y=some .cell:=fun y c hy=>by
  obtain ⟨_,h2⟩:=nY ok cs hy
  exact fM ok.kind h2 (cs.cells _ (mem_of_lookup h2) rfl)
 refine ⟨ok.glo,ok.fr,lW ok.scope,cs.kind,ok.frame,ok.glob,ok.bi,ok.fgen,ok.fco,ok.fglob,ok.fbi,ok.fkind,ok.depth,ok.units,fun y z c h1 h2=>ok.inj y z c (nY ok cs h1).1 (nY ok cs h2).1,fun y c hy=> .inl ?_,fun y hy=>?_⟩
 ·show (oK scope cx.env).names.lookup y=_
  rw [lW ok.scope];exact hk y c hy
 ·refine u3 (cx:=cx) cs ?_
  have:∀ {names:List (Str×iP)},(∀ p∈names,p.2 ≠ .cell)→(names.map fun (n,k)=>if (k == kQ && sc.kind == .function && sc.names.lookup n == some .cell) then (n,yB) else (n,k)).lookup y=some .cell→names.lookup y=some .free:=by
   intro names
   induction names with
   |nil=>intro _ h;simp at h
   |cons p r ih =>
    obtain ⟨z,k⟩:=p
    intro hn h
    rw [aM] at h
    by_cases hz:y=z
    ·subst hz
     by_cases hb:(k == kQ && sc.kind == .function && sc.names.lookup y == some .cell)=true
     ·have:k = .free:=by simp at hb;exact hb.1.1
      subst this;simp [b8]
     ·simp only [hb,if_false,b8] at h
      simp at h
      exact absurd h (hn _ (.head _))
    ·have hz':(y == z)=false:=by simpa using hz
     rw [b8]
     rw [hz']
     refine ih (fun p hp=>hn p (.tail _ hp)) ?_
     by_cases hb:(k == kQ && sc.kind == .function && sc.names.lookup z == some .cell)=true
     ·simpa only [hb,if_true,b8,hz'] using h
     ·simpa only [hb,if_false,bQ,b8,hz'] using h
  exact this cs.nocell hy
theorem Off.put_other {D I:Addr} {ao ao':AO} (f:Off cx (σ.put D ao) I):Off cx (σ.put D ao') I:=
 ⟨f.base,f.P,fun o e=>by
  unfold AS.put at e
  dsimp only at e
  split at e
  ·rename_i q;subst q;exact f.hp ao aX
  ·rename_i q;exact f.hp o (bH q e),f.own,f.fr⟩
theorem Off.put_new {D I:Addr} {ao:AO} (f:Off cx σ I) (h:I≠D):Off cx (σ.put D ao) I:=
 ⟨f.base,f.P,fun o e=>by
  unfold AS.put at e
  dsimp only at e
  rw [if_neg h] at e
  exact f.hp o e,f.own,f.fr⟩
theorem mB {D:Addr} {a b:AO}:(σ.put D a).put D b=σ.put D b:=by
 unfold AS.put
 congr 1
 funext y
 dsimp only
 split <;> rfl
noncomputable def Bz (af:aV) (w:World) (K:Frag) (n:Nat) (scope sc:Scope) (x:Str) (ifs:List Expr) (elt:Expr) (σ₁:AS) (l:List AV) (p:AV→Bool) (f:AV→AV):Prop:=
 ∀ (i:Nat) a D acc cx',l[i]?=some a→σ₁.hp D=none→Ok af K cx' (iD scope sc) n→cx'.A.handled=none →
  WTs af w cx' ifs ((σ₁.put D (.list acc)).comp scope x a) (fun c σ₂=>c=p a∧((σ₁.put D (.list acc)).comp scope x a).Kept σ₂) (fun ux ux=>False) ∧
  (p a=true→bZ af w cx' elt ((σ₁.put D (.list acc)).comp scope x a) (fun u σ₂=>u=f a∧((σ₁.put D (.list acc)).comp scope x a).Kept σ₂) (fun ux ux=>False))
inductive m9 (G:AV→AV→Prop):List AV→List AV→Prop
 |nil:m9 G [] []
 |cons {a u:AV} {l us:List AV} (h:G a u) (t:m9 G l us):m9 G (a::l) (u::us)
theorem m9.length {G:AV→AV→Prop} {l us:List AV} (h:m9 G l us):us.length=l.length:=by
 induction h with
 |nil=>rfl
 |cons _ _ ih=>rw [bj,bj,ih]
theorem m9.snoc {G:AV→AV→Prop} {l us:List AV} {a u:AV} (h:m9 G l us) (g:G a u):m9 G (l++[a]) (us++[u]):=by
 induction h with
 |nil=>exact .cons g .nil
 |cons h _ ih=>exact .cons h ih
theorem m9.map {f:AV→AV} {l us:List AV} (h:m9 (fun a u=>u=f a) l us):us=l.map f:=by
 induction h with
 |nil=>rfl
 |cons h _ ih=>rw [aM,h,ih]
noncomputable def nM (af:aV) (w:World) (K:Frag) (n:Nat) (scope sc:Scope) (x:Str) (ifs:List Expr) (elt:Expr) (σ₁:AS) (l:List AV) (p:AV→Bool) (G:AV→AV→Prop):Prop:=
 ∀ (i:Nat) a D acc cx',l[i]?=some a→σ₁.hp D=none→Ok af K cx' (iD scope sc) n→cx'.A.handled=none →
  WTs af w cx' ifs ((σ₁.put D (.list acc)).comp scope x a) (fun c σ₂=>c=p a∧((σ₁.put D (.list acc)).comp scope x a).Kept σ₂) (fun ux ux=>False) ∧
  (p a=true→bZ af w cx' elt ((σ₁.put D (.list acc)).comp scope x a) (fun u σ₂=>G a u∧((σ₁.put D (.list acc)).comp scope x a).Kept σ₂) (fun ux ux=>False))
inductive rL (af:aV) (w:World) (K:Frag) (n:Nat) (scope sc:Scope) (x:Str) (ifs:List Expr) (elt:Expr) (Q:AV→AS→Prop) (v:AV) (σ₁:AS):Prop
 |mk (l:List AV) (p:AV→Bool) (G:AV→AV→Prop) (hd:Drawn σ₁ v l) (hz:l.length≤aH) (turn:nM af w K n scope sc x ifs elt σ₁ l p G) (q:∀ D us,σ₁.hp D=none→m9 G (l.filter p) us→Q (.ref D) (σ₁.put D (.list us))):rL af w K n scope sc x ifs elt Q v σ₁
inductive tT (af:aV) (w:World) (K:Frag) (n:Nat) (scope sc:Scope) (x:Str) (ifs:List Expr) (elt:Expr) (Q:AV→AS→Prop) (v:AV) (σ₁:AS):Prop
 |mk (l:List AV) (p:AV→Bool) (f:AV→AV) (hd:Drawn σ₁ v l) (hz:l.length≤aH) (turn:Bz af w K n scope sc x ifs elt σ₁ l p f) (q:∀ D,σ₁.hp D=none→Q (.ref D) (σ₁.put D (.list ((l.filter p).map f)))):tT af w K n scope sc x ifs elt Q v σ₁
theorem tT.r {ifs:List Expr} {elt:Expr} {v:AV} (h:tT af w K n scope sc x ifs elt Q v σ):rL af w K n scope sc x ifs elt Q v σ:=
 let ⟨l,p,f,hd,hz,turn,q⟩:=h
 ⟨l,p,fun a u=>u=f a,hd,hz,turn,fun D us hD hu=>by rw [hu.map];exact q D hD⟩
noncomputable def qI (af:aV) (w:World) (K:Frag) (n:Nat) (scope sc:Scope) (bd:AV→Str→Option AV) (ifs:List Expr) (elt:Expr) (σ₁:AS) (l:List AV) (p:AV→Bool) (G:AV→AV→Prop):Prop:=
 ∀ (i:Nat) a D acc cx',l[i]?=some a→σ₁.hp D=none→Ok af K cx' (iD scope sc) n→cx'.A.handled=none →
  WTs af w cx' ifs ((σ₁.put D (.list acc)).compB scope (bd a)) (fun c σ₂=>c=p a∧((σ₁.put D (.list acc)).compB scope (bd a)).Kept σ₂) (fun ux ux=>False) ∧
  (p a=true→bZ af w cx' elt ((σ₁.put D (.list acc)).compB scope (bd a)) (fun u σ₂=>G a u∧((σ₁.put D (.list acc)).compB scope (bd a)).Kept σ₂) (fun ux ux=>False))
noncomputable def w6 (af:aV) (w:World) (A:dM) (env:Env) (C:Addr) (tgt:Expr) (bd:AV→Str→Option AV) (a:AV):Prop:=∀ (s:az) (v:Value) (m:Str→Option Value) (Q:Unit→az→Prop) (E':Value→az→Prop),VR s.heap a v→s.heap.Ns C m →
  (∀ h' tk m',h'.Ns C m'→(∀ y u,bd a y=some u→∃ v',m' y=some v'∧VR h' u v')→(∀ b o,b≠C→s.heap.get? b=some o→h'.get? b=some o)→Q () { s with heap:=h',toks:=tk })→wpAny (model af w) A (assign tgt env v) Q E' s
theorem pZ {A:dM} {elt target iter:Expr} {ifs:List Expr} {scope:Scope} {pos:Pos} {it acc:Value} {env:Env} {s:az} {RR:Result→az→Prop} (I:Nat→az→Prop)
  (turn:∀ n s,I n s→wpAny (model af w) A (oA it) (fun r s₁=>match r with
   |none=>RR (.ok .next) s₁
   |some v=>wpAny (model af w) A (letOwnedTupleGo target it v) (fun ux s₁=>wpAny (model af w) A (assign target env v) (fun ux s₂ =>
     wpAny (model af w) A (forIn ifs true fun c r=>if r=true then do let ok ← isTrue c env (eval c env);pure (fS ok) else pure (fS r)) (fun ok s₃ =>
      if ok=true then wpAny (model af w) A (eval elt env) (fun x s₄ =>
       wpAny (model af w) A (call (.builtin "list.append") [acc,x]) (fun ux s₅=>∃ m,m<n∧I m s₅) (Cj (model af w) A env fun e s'=>RR (.error e) s') s₄) (Cj (model af w) A env fun e s'=>RR (.error e) s') s₃
      else ∃ m,m<n∧I m s₃) (Cj (model af w) A env fun e s'=>RR (.error e) s') s₂) (Cj (model af w) A env fun e s'=>RR (.error e) s') s₁) (Cj (model af w) A env fun e s'=>RR (.error e) s') s₁) (Cj (model af w) A env fun e s'=>RR (.error e) s') s)
  (n:Nat) (h:I n s):rn (model af w) A (.compLoop (.ListComp elt [⟨target,iter,ifs,0⟩] scope pos) 0 it acc env) RR s:=by
 refine codeAny_loop rfl I (fun n s hI=>?_) n h
 show wpAny _ A ((compTurn (.ListComp elt [⟨target,iter,ifs,0⟩] scope pos) 0 it acc env).onRaise (fun x=>do noteFrame x env;theTreesLotGoes x)) _ _ s
 refine wpAny_noted ?_
 rw [compTurn_list]
 refine ag (oF (ag (ak (turn n s hI) (fun r s₁ h₁=>?_) fun ux ux h'=>h')))
 cases r with
 |none=>exact aB h₁
 |some v =>
  refine ag (ak h₁ (fun _ s₁ h₁=>?_) fun ux ux h'=>h')
  refine ag (ak h₁ (fun ux s₂ h₂=>ag (ak h₂ (fun ok s₃ h₃=>?_) fun ux ux h'=>h')) fun ux ux h'=>h')
  cases ok with
  |false=>exact aB ⟨rfl,h₃⟩
  |true=>exact ag (ag (ak h₃ (fun x s₄ h₄=>ag (ak h₄ (fun ux s₅ h₅=>aB (aB ⟨rfl,h₅⟩)) fun ux ux h'=>h')) fun ux ux h'=>h'))
theorem pD (ok:Ok af K cx sc n) (hh:cx.A.handled=none) (cs:jf scope sc x) {elt iter tgt:Expr} {bd:AV→Str→Option AV} {ifs:List Expr} {s₂:az} {I:Addr} {l:List AV} {T:AS→Prop} {It:Nat→Heap→Prop} {p:AV→Bool} {G:AV→AV→Prop}
  {RR:Value→Addr→Result→az→Prop} {E':Value→az→Prop} (r₂:R af w cx σ s₂) (S:Fp af w cx I l T It) (hT:∀ D ao,σ.hp D=none→T (σ.put D ao)) (it0:It 0 s₂.heap) (fI:Off cx σ I) (hz:l.length≤aH)
  (hbd:∀ a y u,bd a y=some u→scope.names.lookup y=some .local) (asg:∀ (i:Nat) a C,l[i]?=some a→w6 af w cx.A (compEnvC scope (bY cx.env scope.names []) C cx.env) C tgt bd a)
  (go:∀ (i:Nat) (a:AV) (s:az) (v:Value) (Q:Unit→az→Prop) (E:Value→az→Prop),l[i]?=some a→VR s.heap a v→It (i+1) s.heap→Q () s→wpAny (model af w) cx.A (letOwnedTupleGo tgt (.ref I) v) Q E s)
  (turn:qI af w K n scope sc bd ifs elt σ l p G)
  (hRR:∀ D C us s',m9 G (l.filter p) us→R af w cx (σ.put D (.list us)) s'→VM s₂.heap s'.heap→σ.hp D=none→Off cx (σ.put D (.list us)) C→(∃ m,s'.heap.Ns C m)→RR (.ref D) C (.ok .next) s') :
  wpAny (model af w) cx.A (newList []) (fun acc s₃=>wpAny (model af w) cx.A (newFunctionEnv scope cx.env.globals (bY cx.env scope.names []) [] cx.env.qual none .none (some cx.env)) (fun cenv s₄ =>
   rn (model af w) cx.A (.compStart (.ListComp elt [⟨tgt,iter,ifs,0⟩] scope pos) 0 (.ref I) acc { cenv with scope:=oK scope cx.env }) (RR acc cenv.locals) s₄) E' s₃) E' s₂:=by
 refine iX (wpAny_newFunctionEnv cs.nocell (by intro y hy;simp at hy) (fun h₁ hns₁ hsb₁=>?_) cs.kind)
 dsimp only at hns₁ hsb₁ ⊢
 generalize hH2:s₂.heap.push { cls:=.type "list",dict:=none,data:=.seq ([]:List Value).toArray }=H2 at hns₁ hsb₁ ⊢
 generalize hD:s₂.heap.objs.size=D at hns₁ hsb₁ ⊢
 have hC:H2.objs.size=D+1:=by rw [← hH2,Heap.size_push,hD]
 generalize hCC:H2.objs.size=C at hns₁ hsb₁ hC ⊢
 have hDC:D≠C:=by rw [hC];exact cw (ew _)
 have hnD:s₂.heap.get? D=none:=by rw [← hD];exact cE _
 have hnC:H2.get? C=none:=by rw [← hCC];exact cE _
 have k2:∀ b o,s₂.heap.get? b=some o→H2.get? b=some o:=fun b o e=>by rw [← hH2];exact aq _ e
 have gD:H2.get? D=some { cls:=.type "list",dict:=none,data:=.seq ([]:List Value).toArray }:=by rw [← hH2,← hD];exact aS _ rfl
 have rD:R af w cx (σ.put D (.list [])) { s₂ with heap:=H2 }:=r₂.new (tk:=s₂.toks) (ao:=.list []) hnD k2 ⟨[],⟨_,gD⟩,rfl⟩
 have hσD:σ.hp D=none:=by
  cases q:σ.hp D with
  |none=>rfl
  |some ao=>exact absurd q ((Off.new r₂ hnD).hp ao)
 have fC:∀ acc,Off cx (σ.put D (.list acc)) C:=fun acc=>(Off.new rD hnC).put_other
 obtain ⟨oI₀,hoI₀,_,backI₀⟩:=S.data _ _ it0
 have hID:I≠D:=fun q=>by subst q;rw [hnD] at hoI₀;cases hoI₀
 have hIC:I≠C:=fun q=>by have:=k2 _ _ hoI₀;rw [q,hnC] at this;cases this
 have fI':∀ acc,Off cx (σ.put D (.list acc)) I:=fun acc=>fI.put_new hID
 have k1:∀ b o,H2.get? b=some o→h₁.get? b=some o:=fun b o e=>by
  have nb:b≠C:=fun q=>by subst q;rw [hnC] at e;cases e
  exact (hsb₁.2 b nb).trans (aq _ e)
 have r₁:R af w cx (σ.put D (.list [])) { s₂ with heap:=h₁,toks:=s₂.toks+([]:List (Str×Value)).length }:=rD.grow (tk:=s₂.toks+([]:List (Str×Value)).length) k1
 have it₁:It 0 h₁:=backI₀ h₁ (k1 _ _ (k2 _ _ hoI₀))
 have vm₁:VM s₂.heap h₁:=VM.of_keeps fun b o e=>k1 b o (k2 b o e)
 have hcl:∀ y c,(bY cx.env scope.names []).lookup y=some c→cx.env.cells.lookup y=some c:=fun y c h=>(nY ok cs h).1
 have hxl:∀ a y u,bd a y=some u→(oK scope cx.env).names.lookup y=some .local:=fun a y u e=>lookup_relabel_local (hbd a y u e)
 have hk:∀ y,((bY cx.env scope.names []).lookup y).isSome=true→(oK scope cx.env).names.lookup y=some .cell∨(oK scope cx.env).names.lookup y=some .free:=fun y hy=>by
  obtain ⟨c,hc⟩:=bU.mp hy
  obtain ⟨_,h2⟩:=nY ok cs hc
  rw [lW ok.scope]
  exact .inl (fM ok.kind h2 (cs.cells _ (mem_of_lookup h2) rfl))
 have loop:∀ s₃:az,s₃={ s₂ with heap:=h₁,toks:=s₂.toks+([]:List (Str×Value)).length } →
   rn (model af w) cx.A (.compLoop (.ListComp elt [⟨tgt,iter,ifs,0⟩] scope pos) 0 (.ref I) (.ref D) (compEnvC scope (bY cx.env scope.names []) C cx.env)) (RR (.ref D) C) s₃:=by
  rintro s₃ rfl
  refine pZ (fun k s'=>∃ i acc,k+i=l.length+1∧i≤l.length∧m9 G ((l.take i).filter p) acc∧R af w cx (σ.put D (.list acc)) s'∧VM s₂.heap s'.heap∧It i s'.heap∧∃ m,s'.heap.Ns C m) ?_ (l.length+1) ⟨0,[],by lia,by (exact dw _),.nil,r₁,vm₁,it₁,_,hns₁⟩
  rintro k s₃ ⟨i,acc,hki,hil,hacc,r₃,m₃,it₃,mm,hns₃⟩
  obtain ⟨o₀,ho₀,nd₀,_⟩:=S.data _ _ it₃
  by_cases hi:i<l.length
  ·refine S.item i s₃ _ l[i] _ _ (by simp [hi]) r₃ (hT D _ hσD) it₃ fun v h₄ tk₄ hv it₄ hk₄=>?_
   obtain ⟨r₄,m₄⟩:=r₃.off (h':=h₄) (tk:=tk₄) (fI' acc) ho₀ nd₀ hk₄
   have hns₄:h₄.Ns C mm:=hns₃.at' fun o e=>hk₄ _ o (bl hIC) e
   refine go i l[i] _ v _ _ (by simp [hi]) (hv.mono m₄) it₄ ?_
   refine asg i l[i] C (by simp [hi]) _ v mm _ _ (hv.mono m₄) hns₄ fun h₅ tk₅ m' hn₅ hb₅ hs₅=>?_
   obtain ⟨oC,es,ep,hoC,hdC⟩:=jI hns₄
   obtain ⟨r₅,m₅⟩:=r₄.off (h':=h₅) (tk:=tk₅) (fC acc) hoC (by intro xs n;rw [hdC];simp) fun b o hb e=>hs₅ b o hb e
   obtain ⟨o₄,ho₄,_,back₄⟩:=S.data _ _ it₄
   have it₅:It (i+1) h₅:=back₄ h₅ (hs₅ I _ hIC ho₄)
   obtain ⟨oI,hoI,ndI,backI⟩:=S.data _ _ it₅
   have e₅:=r₅.enterComp (scope:=scope) (cl:=bY cx.env scope.names []) (bd:=bd l[i]) (fI' acc) hoI (fC acc) (bl hIC) hn₅ hb₅ hcl (hxl l[i]) hk ok.ck
   have e₅':R af w (cx.comp scope (bY cx.env scope.names []) C h₅ I oI) ((σ.put D (.list acc)).compB scope (bd l[i])) _:=e₅.le (by
    refine ⟨fun y u e=>?_,fun ux ux e=>e⟩
    unfold AS.compB at e
    unfold AS.compLocB
    dsimp only at e ⊢
    split at e
    ·rename_i q;(try rw [q]);exact e
    ·rename_i q
     (try rw [q])
     (try dsimp only)
     split at e
     ·rename_i q2
      rw [if_pos (u3 (cx:=cx) cs (by simpa using q2))];exact e
     ·cases e)
   have ok':Ok af K (cx.comp scope (bY cx.env scope.names []) C h₅ I oI) (iD scope sc) n:=ok.comp cs
   obtain ⟨ht,he⟩:=turn i l[i] D acc _ (by simp [hi]) hσD ok' hh
   have back:∀ σ₆ (s₆:az),R af w (cx.comp scope (bY cx.env scope.names []) C h₅ I oI) σ₆ s₆→VM h₅ s₆.heap→((σ.put D (.list acc)).compB scope (bd l[i])).Kept σ₆→R af w cx (σ.put D (.list acc)) s₆∧VM s₂.heap s₆.heap∧It (i+1) s₆.heap∧∃ m,s₆.heap.Ns C m:=fun σ₆ s₆ r₆ m₆ ⟨q1,q2⟩=>by
    refine ⟨?_,((m₃.trans m₄).trans m₅).trans m₆,backI _ (r₆.pr I oI (.inr (.inr ⟨rfl,rfl⟩))).1,r₆.ns⟩
    refine (r₅.leaveComp r₆ m₆ hcl (fun y hy=>?_) ok.inj hk ok.ck).le ⟨fun ux ux e=>e,fun b o e=>q2 b o e⟩
    obtain ⟨c,hc⟩:=bU.mp hy
    have h2:=(nY ok cs hc).2
    rw [q1]
    unfold AS.compB
    dsimp only
    have hb0:bd l[i] y=none:=by
     cases q:bd l[i] y with
     |none=>rfl
     |some u=>have:=hbd _ _ _ q;rw [h2] at this;cases this
    rw [hb0]
    dsimp only
    rw [if_pos (by rw [h2];rfl)]
   have take:l.take (i+1)=l.take i++[l[i]]:=by rw [List.take_succ,aO hi];rfl
   refine ak (ht _ e₅') (fun c s₆ zz=>zz.use fun c' σ₆ r₆ v₆ m₆ ⟨q1,q2⟩=>?_) fun _ _ ⟨_,_,_,_,_,_,_,_,_,_,_,e⟩=>e.elim
   have hc':c'=c:=v₆
   subst hc'
   subst q1
   obtain ⟨b1,b2,b3,b4⟩:=back σ₆ s₆ r₆ m₆ q2
   cases hp:p l[i] with
   |false =>
    rw [if_neg (by simp)]
    exact ⟨k - 1,by lia,i+1,acc,by lia,by (exact Nat.succ_le_of_lt (by assumption)),by rw [take,dH,cj,hp,if_neg (by decide),List.filter_nil,cA];exact hacc,b1,b2,b3,b4⟩
   |true =>
    rw [if_pos rfl]
    have r₆':R af w (cx.comp scope (bY cx.env scope.names []) C h₅ I oI) ((σ.put D (.list acc)).compB scope (bd l[i])) s₆:=r₆.le ⟨fun y u e=>by rw [q2.1];exact e,q2.2⟩
    refine ak (he hp s₆ r₆') (fun u s₇ zz=>zz.use fun u' σ₇ r₇ v₇ m₇ ⟨q3,q4⟩=>?_) fun _ _ ⟨_,_,_,_,_,_,_,_,_,_,_,e⟩=>e.elim
    obtain ⟨c1,c2,c3,mC,c4⟩:=back σ₇ s₇ r₇ (m₆.trans m₇) q4
    obtain ⟨⟨ws,pl,qs⟩,_⟩:=c1.ob D _ aX
    have hlen:acc.length≤aH:=by
     rw [hacc.length]
     refine aI (fF _ _) ?_
     rw [bh];lia
    refine wpAny_list_append_plain pl (fun h₈ pl' hs₈=>?_) (by rw [cm,qs.length];exact hlen)
    obtain ⟨r₈,m₈⟩:=c1.upd (h':=h₈) (tk:=s₇.toks) (ao':=.list (acc++[u'])) aX rfl (fun b o hb e=>(hs₈.2 b hb).trans e) fun vm=>⟨ws++[u],by simpa using pl',(qs.mono vm).snoc (VR.mono vm _ v₇)⟩
    rw [mB] at r₈
    obtain ⟨o₇,ho₇,_,back₇⟩:=S.data _ _ c3
    exact ⟨k - 1,by lia,i+1,_,by lia,by (exact Nat.succ_le_of_lt (by assumption)),by rw [take,dH,cj,hp,if_pos rfl,List.filter_nil];exact hacc.snoc q3,r₈,c2.trans m₈,back₇ h₈ ((hs₈.2 I hID).trans ho₇),mC,c4.sameBut hs₈ (bl hDC)⟩
  ·have:i=l.length:=by lia
   subst this
   rw [fm] at hacc
   refine S.done s₃ _ _ _ r₃ (hT D _ hσD) it₃ fun h₄ tk₄ hk₄=>?_
   obtain ⟨r₄,m₄⟩:=r₃.off (h':=h₄) (tk:=tk₄) (fI' _) ho₀ nd₀ hk₄
   exact hRR D C acc _ hacc r₄ (m₃.trans m₄) hσD (fC _) ⟨mm,hns₃.at' fun o e=>hk₄ _ o (bl hIC) e⟩
 exact codeAny_compStart_list (loop _ rfl) (S.self 0 _ _ _ it₁ (loop _ rfl))
theorem tE {A:dM} {scope:Scope} {x:Str} {px:Pos} {cl:List (Str×Addr)} {env:Env} {C:Addr} {a:AV} (hk:scope.kind = .function) (hx:scope.names.lookup x=some .local):w6 af w A (compEnvC scope cl C env) C (.Name x px) (mY x) a:=fun s v m Q E' hv hns hq=>by
 refine vE (wpAny_storeName_local (env:=compEnvC scope cl C env) (lookup_relabel_local hx) hns (fun h₅ hn₅ hs₅=>?_) (by simp [compEnvC,oK,hk]))
 obtain ⟨oC,es,ep,hoC,hdC⟩:=jI hns
 have vm:VM s.heap h₅:=fun b o xs n e c d=>by
  have nb:b≠C:=fun q=>by subst q;rw [hoC] at e;cases e;rw [hdC] at d;cases d
  exact ⟨o.slots,(hs₅.2 b nb).trans e⟩
 refine hq h₅ _ _ hn₅ (fun y u e=>?_) fun b o hb e=>(hs₅.2 b hb).trans e
 unfold mY at e
 split at e
 ·rename_i q;subst q;cases e;exact ⟨v,by simp,hv.mono vm⟩
 ·cases e
theorem nM.g {ifs:List Expr} {elt:Expr} {l:List AV} {p:AV→Bool} {G:AV→AV→Prop} (h:nM af w K n scope sc x ifs elt σ l p G):qI af w K n scope sc (mY x) ifs elt σ l p G:=fun i a D acc cx' h1 h2 h3 h4=>by
 rw [AU];exact h i a D acc cx' h1 h2 h3 h4
theorem qD {scope:Scope} {x:Str} (hx:scope.names.lookup x=some .local):∀ a y u,mY x a y=some u→scope.names.lookup y=some .local:=fun a y u e=>by
 unfold mY at e
 split at e
 ·rename_i q;subst q;exact hx
 ·cases e
theorem qP (ok:Ok af K cx sc n) (hh:cx.A.handled=none) (cs:jf scope sc x) {elt iter:Expr} {px:Pos} {ifs:List Expr}
  (h:bZ af w cx iter σ (rL af w K n scope sc x ifs elt Q) E)
  (hs:∀ v,dF iter cx.env v=pure v):bZ af w cx (.ListComp elt [⟨.Name x px,iter,ifs,0⟩] scope pos) σ Q E:=fun s r=>by
 rw [eval_ListComp]
 refine wpAny_comprehension_free (use:=none) rfl hs (l6 fun y hy hf=>ok.cc _ (cs.cells y hy hf)) cs.kind cs.locs (ak (h s r) (fun v s₁ zz=>?_) fun ux ux e=>e)
 obtain ⟨a,σ₁,r₁,v₁,m₁,l,p,G,q1,q2,q3,q4⟩:=zz
 refine ak (lX hh r₁ q1 v₁) (fun it s₂ zz=>?_) fun ux ux e=>e
 obtain ⟨I,T,It,e,r₂,m₂,S,hT,it0,fI⟩:=zz
 subst e
 refine pD ok hh cs (bd:=mY x) (p:=p) (G:=G) (RR:=fun acc C=>compPost (model af w) cx.A (dh af w cx s E) none (dU af w VR cx s Q) acc C) r₂ S (fun D ao hD=>hT _ ⟨D,ao,hD,rfl⟩) it0 fI q2 (qD cs.x) (fun i a C ux=>tE cs.kind cs.x) (fun i a s v Q E ux ux ux hq=>oV (a:=()) rfl hq) q3.g fun D C us s' hu r' m' hD fC ⟨m,hm⟩=>?_
 obtain ⟨oC,es,ep,hoC,hdC⟩:=jI hm
 refine ⟨m,hm,fun h' hs'=>?_⟩
 obtain ⟨r'',m''⟩:=r'.off (h':=h') (tk:=s'.toks) fC hoC (by intro xs n;rw [hdC];simp) fun b o hb e=>(hs'.2 b hb).trans e
 exact ⟨.ref D,_,r'',di,((m₁.trans m₂).trans m').trans m'',q4 D us hD hu⟩
theorem lT (ok:Ok af K cx sc n) (hh:cx.A.handled=none) (cs:jf scope sc x) {elt iter:Expr} {px:Pos} {ifs:List Expr}
  (h:bZ af w cx iter σ (tT af w K n scope sc x ifs elt Q) E)
  (hs:∀ v,dF iter cx.env v=pure v):bZ af w cx (.ListComp elt [⟨.Name x px,iter,ifs,0⟩] scope pos) σ Q E:=qP ok hh cs (h.imp (fun ux ux q=>q.r) fun ux ux e=>e) hs
theorem qM (ok:Ok af K cx sc n) (hh:cx.A.handled=none) (cs:jf scope sc x) {elt iter:Expr} {px:Pos} {ifs:List Expr} {y:Str} {py spos:Pos} (hy:sc.names.lookup y=some .local)
  (hsw:g8 (.ListComp elt [⟨.Name x px,iter,ifs,0⟩] scope pos) (some (.Name y py)) spos.line cx.env=pure true)
  (h:bZ af w cx iter σ (rL af w K n scope sc x ifs elt (fun a σ=>QF .next (σ.set y a))) E)
  (hs:∀ v,dF iter cx.env v=pure v):jv af w cx (.Assign [.Name y py] (.ListComp elt [⟨.Name x px,iter,ifs,0⟩] scope pos) spos) σ QF E:=fun s r=>by
 rw [exec_Assign_Name_used _ _ _ _ hsw]
 refine ag (oF (ag ?_))
 show wpAny _ cx.A (do let _ ← comprehension (.ListComp elt [⟨.Name x px,iter,ifs,0⟩] scope pos) scope cx.env _ (newList []) false (eval iter cx.env) (some (assign (.Name y py) cx.env))) _ _ s
 refine ag (ak (wpAny_comprehension_free (use:=some (assign (.Name y py) cx.env)) (Q:=fun ux s'=>dU af w FR cx s QF .next s') rfl hs (l6 fun y hy hf=>ok.cc _ (cs.cells y hy hf)) cs.kind cs.locs
  (ak (h s r) (fun v s₁ ⟨a,σ₁,r₁,v₁,m₁,l,p,G,q1,q2,q3,q4⟩=>?_) fun ux ux e=>e)) (fun ux s' hq=>aB (aB hq)) fun ux ux e=>e)
 refine ak (lX hh r₁ q1 v₁) (fun it s₂ zz=>?_) fun ux ux e=>e
 obtain ⟨I,T,It,e,r₂,m₂,S,hT,it0,fI⟩:=zz
 subst e
 refine pD ok hh cs (bd:=mY x) (p:=p) (G:=G) (RR:=fun acc C=>compPost (model af w) cx.A (dh af w cx s E) (some (assign (.Name y py) cx.env)) (fun ux s'=>dU af w FR cx s QF .next s') acc C) r₂ S (fun D ao hD=>hT _ ⟨D,ao,hD,rfl⟩) it0 fI q2 (qD cs.x) (fun i a C ux=>tE cs.kind cs.x) (fun i a s v Q E ux ux ux hq=>oV (a:=()) rfl hq) q3.g fun D C us s' hu r' m' hD fC ⟨m,hm⟩=>?_
 obtain ⟨oC,es,ep,hoC,hdC⟩:=jI hm
 have g':=r'.guard fC hoC
 have hP:∀ b o,cx.P b o→(fun b x=>cx.P b x∨(b=C∧x=oC)) b o:=fun b o e=> .inl e
 show wpAny _ cx.A (assign (.Name y py) cx.env (.ref D)) _ _ _
 refine vE (ak (oJ (cx:=cx.withP fun b x=>cx.P b x∨(b=C∧x=oC)) (Q:=fun ux σ'=>σ'=(σ₁.put D (.list us)).set y (.ref D)) (E:=fun ux ux=>False) (ok.withP _) hy rfl _ (.ref D) g' di) (fun ux s₅ zz=>zz.use fun _ σ₅ r₅ _ m₅ q₅=>?_) fun _ _ ⟨_,_,_,_,_,_,_,_,_,_,_,e⟩=>e.elim)
 subst q₅
 have hC5:=(r₅.pr C oC (.inr ⟨rfl,rfl⟩)).1
 have fC5:=fC.of_guard r₅
 obtain ⟨m5,hm5⟩:∃ m,s₅.heap.Ns C m:=⟨m,hm.at' fun o e=>by rw [hoC] at e;cases e;exact hC5⟩
 refine ⟨m5,hm5,fun h' hs'=>?_⟩
 obtain ⟨r'',m''⟩:=(r₅.lessP hP).off (h':=h') (tk:=s₅.toks) fC5 hC5 (by intro xs n;rw [hdC];simp) fun b o hb e=>(hs'.2 b hb).trans e
 exact ⟨.next,_,r'',rfl,(((m₁.trans m₂).trans m').trans m₅).trans m'',q4 D us hD hu⟩
theorem uc (ok:Ok af K cx sc n) (hh:cx.A.handled=none) (cs:jf scope sc x) {elt iter:Expr} {px:Pos} {ifs:List Expr} {y:Str} {py spos:Pos} (hy:sc.names.lookup y=some .local)
  (hsw:g8 (.ListComp elt [⟨.Name x px,iter,ifs,0⟩] scope pos) (some (.Name y py)) spos.line cx.env=pure true)
  (h:bZ af w cx iter σ (tT af w K n scope sc x ifs elt (fun a σ=>QF .next (σ.set y a))) E)
  (hs:∀ v,dF iter cx.env v=pure v):jv af w cx (.Assign [.Name y py] (.ListComp elt [⟨.Name x px,iter,ifs,0⟩] scope pos) spos) σ QF E:=qM ok hh cs hy hsw (h.imp (fun ux ux q=>q.r) fun ux ux e=>e) hs
end
theorem ki {A:dM} {s:az} {E':Value→az→Prop} {value slice:Expr} {o i:Value} {T id:String} {ops:List Value} {Q:Value→az→Prop} (hT:s.TypeIs o T)
  (hl:typeLookup (.type T) "__getitem__"=pure (some (.builtin id))) (h:wpAny (model af w) A (lC o i) Q E' s)
  (hs:eA slice false o i=mF ops (lC o i)):wpAny (model af w) A (cO value slice o i) Q E' s:=by
 unfold cO
 refine ag ?_
 rw [getitemInPython_of_ne hT.not_modules]
 refine ag (wpAny_specialOf hT hl ?_)
 have fin:wpAny (model af w) A (eA slice false o i) (fun r s₃=>wpAny (model af w) A (letTemporaryGo value o r >>= fun ux=>pure r) Q E' s₃) E' s:=by
  rw [hs]
  exact wpAny_operating (ak h (fun r s₃ h₃=>ag (wpAny_letTemporaryGo (aB h₃))) fun ux ux x=>x)
 first
  |exact aB (ag fin)
  |exact ag (aB (ag fin))
  |exact ag fin
theorem gH {value slice:Expr} {x:Addr} {l:List AV} {i:Int} {a:AV} (hl:σ.lst x l) (hlo:0≤i) (hhi:i<2 ^ 63) (ha:l[i.toNat]?=some a) (h:Q a σ)
  (hs:∀ o i,eA slice false o i=mF [o,i] (lC o i):=by intro _ _;with_unfolding_all rfl):de af w cx (cO value slice) (.ref x) (.int i) σ Q E:=by
 rintro s va _ r q0 ⟨t,rfl⟩
 rw [show va = .ref x from q0]
 obtain ⟨vs,p,q⟩:=r.lst hl
 obtain ⟨v,hv,hva⟩:=q.get ha
 exact ki p.typeIs slot_list_getitem.lookup (wpAny_getItem_list p hlo hhi (by simpa using hv) (dT r hva h)) (hs _ _)
theorem mA {value slice:Expr} {l:List AV} {i:Int} {k:Nat} {a:AV} (hlo:-(2 ^ 63)≤i) (hhi:i<2 ^ 63) (hk:seqIndex? i l.length=some k) (ha:l[k]?=some a) (h:Q a σ)
  (hs:∀ o i,eA slice false o i=mF [o,i] (lC o i):=by intro _ _;with_unfolding_all rfl):de af w cx (cO value slice) (.tup l) (.int i) σ Q E:=by
 rintro s _ _ r ⟨x,vs,rfl,⟨o,m,h1,h2,h3⟩,q⟩ ⟨t,rfl⟩
 obtain ⟨v,hv,hva⟩:=q.get ha
 have ht:IsTup s.heap x vs.toArray:=⟨o,h1,h2,m,h3⟩
 exact ki ht.typeIs slot_tuple_getitem.lookup (getItem_tuple ht hlo hhi (by rw [cm,q.length];exact hk) (by simpa using hv) (dT r hva h)) (hs _ _)
theorem io {value slice:Expr} {p:Int×Int} (h:Q (.int p.1) σ) (hs:∀ o i,eA slice false o i=mF [o,i] (lC o i)):de af w cx (cO value slice) (eC p) (.int 0) σ Q E:=
 mA (by decide) (by decide) (k:=0) rfl rfl h hs
theorem lm {value slice:Expr} {p:Int×Int} (h:Q (.int p.2) σ) (hs:∀ o i,eA slice false o i=mF [o,i] (lC o i)):de af w cx (cO value slice) (eC p) (.int 1) σ Q E:=
 mA (by decide) (by decide) (k:=1) rfl rfl h hs
theorem yT {value slice:Expr} {x:Addr} {l:List AV} {ns:List Int} {i:Int} (hl:σ.lst x l) (hn:pz l=some ns) (hlo:0≤i) (hhi:i<ns.length) (hz:ns.length≤aH) (h:∀ v,ns[i.toNat]?=some v→Q (.int v) σ)
  (hs:∀ o i,eA slice false o i=mF [o,i] (lC o i)):de af w cx (cO value slice) (.ref x) (.int i) σ Q E:=by
 have key:∀ {l:List AV} {ns:List Int},pz l=some ns→l=ns.map AV.int:=by
  intro l
  induction l with
  |nil=>intro ns e;cases e;rfl
  |cons a l ih =>
   intro ns e
   cases a with
   |int i =>
    unfold pz at e
    cases q:pz l with
    |none=>rw [q] at e;cases e
    |some ms=>rw [q] at e;cases e;rw [ih q];rfl
   |_=>cases e
 have e:=key hn
 subst e
 have lt:i.toNat<ns.length:=by lia
 refine gH hl hlo (by have:aH=2 ^ 24:=rfl;lia) (a:=.int ns[i.toNat]) (by rw [aR,aO lt];rfl) (h _ (aO lt)) hs
theorem r0 {h:Heap}:∀ {l:List AV} {vs:List Value} (a:Nat),iM h l vs→iM h (l.drop a) (vs.drop a)
 |[],vs,a,e=>by rw [show vs=[] from e];simp;rfl
 |y::l,_,0,q=>q
 |y::l,_,a+1,⟨v,r,e,p,q⟩=>by subst e;exact r0 a q
theorem rX {h:Heap}:∀ {l:List AV} {vs:List Value} (a:Nat),iM h l vs→iM h (l.take a) (vs.take a)
 |[],vs,a,e=>by rw [show vs=[] from e];simp;rfl
 |y::l,_,0,q=>rfl
 |y::l,_,a+1,⟨v,r,e,p,q⟩=>by subst e;exact ⟨v,r.take a,rfl,p,rX a q⟩
theorem lU {s:az} {value:Expr} {lower upper:Option Expr} {p:Pos} {x:Addr} {l:List AV} {lo hi:Option Int} {vl vu:Value} (r:R af w cx σ s) (hl:σ.lst x l) (hz:l.length≤aH) (pl:IsPart vl lo) (pu:IsPart vu hi)
  (h:∀ z,σ.hp z=none→Q (.ref z) (σ.put z (.list ((l.drop (lo.elim 0 (fh l.length))).take (hi.elim l.length (fh l.length) - lo.elim 0 (fh l.length)))))) :
  wpAny (model af w) cx.A (cO value (.Slice lower upper none p) (.ref x) (.ref s.heap.objs.size)) (dU af w VR cx s Q) (dh af w cx s E) { s with heap:=s.heap.push { cls:=.type "slice",data:=.fields #[vl,vu,.none] } }:=by
 obtain ⟨vs,p,q⟩:=r.lst hl
 have k1:∀ b o,s.heap.get? b=some o→(s.heap.push { cls:=.type "slice",data:=.fields #[vl,vu,.none] }).get? b=some o:=fun b o e=>aq _ e
 refine ki (Heap.IsList.typeIs (s:={ s with heap:=s.heap.push { cls:=.type "slice",data:=.fields #[vl,vu,.none] } }) (p.push _)) slot_list_getitem.lookup
  (wpAny_getItem_list_slice (p.push _) (Heap.IsSliceOf.new ..) pl pu .none (by simp) ?_ (by rw [cm,q.length];exact hz)) (ops:=[.ref s.heap.objs.size,.ref x]) rfl
 have r₄:=r.grow (tk:=s.toks) k1
 rw [slicePick_plain]
 simp only [cm,q.length]
 generalize hH:s.heap.push { cls:=.type "slice",data:=.fields #[vl,vu,.none] }=H at r₄ k1 ⊢
 generalize hw:((vs.drop (lo.elim 0 (fh l.length))).take (hi.elim l.length (fh l.length) - lo.elim 0 (fh l.length)))=ws
 have q':iM s.heap ((l.drop (lo.elim 0 (fh l.length))).take (hi.elim l.length (fh l.length) - lo.elim 0 (fh l.length))) ws:=by rw [← hw];exact rX _ (r0 _ q)
 have k2:∀ b o,H.get? b=some o→(H.push { cls:=.type "list",data:=.seq ws.toArray }).get? b=some o:=fun b o e=>aq _ e
 have vm1:=VM.of_keeps k1
 have vm2:=VM.of_keeps k2
 exact ⟨.ref _,_,r₄.new (tk:=s.toks) (ao:=.list ((l.drop (lo.elim 0 (fh l.length))).take (hi.elim l.length (fh l.length) - lo.elim 0 (fh l.length)))) (cE _) k2 ⟨_,⟨_,aS _ rfl⟩,(q'.mono vm1).mono vm2⟩,di,vm1.trans vm2,h _ (gq r₄)⟩
theorem qO {value lower upper:Expr} {p:Pos} (h:bZ af w cx value σ (fun a σ₁=>bZ af w cx lower σ₁ (fun b σ₂=>bZ af w cx upper σ₂ (fun c σ₃=>∃ x l i j,a = .ref x∧b = .int i∧c = .int j∧σ₃.lst x l∧l.length≤aH ∧
  ∀ z,σ₃.hp z=none→Q (.ref z) (σ₃.put z (.list ((l.drop (fh l.length i)).take (fh l.length j - fh l.length i))))) E) E) E):bZ af w cx (.Subscript value (.Slice (some lower) (some upper) none p) pos) σ Q E:=fun s r=>by
 refine Subscript_ (ak (h s r) (fun va s₁ zz=>zz.use fun a σ₁ r₁ v₁ m₁ q₁=>?_) fun ux ux e=>e)
 refine wpAny_Slice ?_
 rw [evalPart_some,evalPart_some,evalPart_none]
 refine ak (q₁ s₁ r₁) (fun vb s₂ zz=>zz.use fun b σ₂ r₂ v₂ m₂ q₂=>?_) fun ux ux e=>e.mono m₁
 refine ak (q₂ s₂ r₂) (fun vc s₃ zz=>?_) fun ux ux e=>e.mono (m₁.trans m₂)
 obtain ⟨c,σ₃,r₃,v₃,m₃,x,l,i,j,ha,hb,hc,hl,hz,q₃⟩:=zz
 subst ha hb hc
 rw [show va = .ref x from v₁]
 obtain ⟨t2,rfl⟩:=v₂
 obtain ⟨t3,rfl⟩:=v₃
 exact aB (ak (lU (Q:=Q) (E:=E) r₃ hl hz (.int i t2) (.int j t3) q₃) (fun ux ux p=>p.mono ((m₁.trans m₂).trans m₃)) fun ux ux e=>e.mono ((m₁.trans m₂).trans m₃))
theorem iq {x y:Addr} {l l':List AV} (hx:σ.lst x l) (hy:σ.lst y l') (hz:l.length+l'.length≤aH) (h:∀ z,σ.hp z=none→Q (.ref z) (σ.put z (.list (l++l')))):de af w cx (kM .Add) (.ref x) (.ref y) σ Q E:=by
 rintro s va vb r q1 q2
 rw [show va = .ref x from q1,show vb = .ref y from q2]
 obtain ⟨vs,⟨⟨cls,dd,data,sl⟩,ho,hc,n,hd⟩,q⟩:=r.lst hx
 obtain ⟨ws,⟨⟨cls2,dd2,data2,sl2⟩,ho2,hc2,n2,hd2⟩,q'⟩:=r.lst hy
 simp only at hc hd hc2 hd2
 subst hc hd hc2 hd2
 have e:vs.toArray++ws.toArray=(vs++ws).toArray:=by simp
 refine concat_meets ⟨_,ho,rfl⟩ ⟨_,ho2,rfl⟩ noFill_list_add seq_list_add PySem.F.slot_list_add PySem.F.entry_list_add (PySem.F.args_list_add_2 _ _) (list_addW x y vs.toArray ws.toArray n n2 dd dd2 sl sl2 (by simpa [q.length,q'.length] using hz)) ⟨ho,ho2,?_⟩
 rw [e]
 have k:∀ b o,s.heap.get? b=some o→(s.heap.push { cls:=.type "list",data:=.seq (vs++ws).toArray }).get? b=some o:=fun b o e=>aq _ e
 exact ⟨.ref _,_,r.new (tk:=s.toks) (ao:=.list (l++l')) (cE _) k ⟨_,⟨_,aS _ rfl⟩,(q.append q').mono (VM.of_keeps k)⟩,di,VM.of_keeps k,h _ (gq r)⟩
theorem nX (ok:Ok af K cx sc n) {x:Addr} {l:List AV} (hx:σ.lst x l) {c:AV} {cv:Value} {b:Bool} (hc:∀ h v,VR h c v→v=cv) (e:kitOne K (.type "list") cv=some b) (h:Q (.bool b) σ):gd af w cx (.builtin "isinstance") [.ref x,c] σ Q E:=fun s vs r hv=>by
 obtain ⟨v,u,rfl,p,q⟩:=r5 hv
 rw [hc _ _ q,show v = .ref x from p]
 obtain ⟨us,⟨o,h1,h2,m,h3⟩,_⟩:=r.lst hx
 exact kia_one kitx_list (fun a o e=>r.stay a o (ok.glo.KX a o e)) ⟨o,h1,h2⟩ e (by simp) fun tk=>j8 r dk h
theorem BO (ok:Ok af K cx sc n) {v:Expr} (hs:∀ env,g8 v none pos.line env=pure false) (h:bZ af w cx v σ (fun ux σ₁=>QF .next σ₁) E):jv af w cx (.Expr v pos) σ QF E:=fun s r=>by
 exact wpAny_Expr_any (ak (h s r) (fun va s₁ zz=>zz.use fun a σ₁ r₁ v₁ m₁ q₁=>⟨.next,σ₁,r₁,rfl,m₁,q₁⟩) fun ux ux e=>e) (by unfold interactive;rw [ok.scope,ok.kind];rfl) (hs _)
theorem gG (g:Fx af K cx sc n) {x:Str} {px:Pos} {iter:Expr} {body:List Stmt} (hx:sc.names.lookup x=some .local) (hs:∀ v,dF iter cx.env v=pure v)
  (h:bZ af w cx iter σ (fun v σ₁=>∃ ax l,∃ J:Nat→AS→Prop,v = .ref ax∧J 0 σ₁∧(∀ i σ,J i σ→σ.hp ax=some (.list l)) ∧
   (∀ i a σ cx',Fx af K cx' sc n→l[i]?=some a→J i σ→cf af w cx' body (σ.set x a) (rI (J (i+1)) QF) E)∧∀ σ,J l.length σ→QF .next σ) E):jv af w cx (.For (.Name x px) iter body [] pos) σ QF E:=
 AD g.ok g.fe g.hh hx (h.imp (fun v σ₁ ⟨ax,l,J,h1,h2,h3,h4,h5⟩=>by
  subst h1
  exact ⟨l,J,.list (.inl (h3 0 _ h2)) (fun σ' ⟨i,hj⟩=> .inl (h3 i σ' hj)),h2,fun i a σ P' ha hj ux=>h4 i a σ _ (g.withP P') ha hj,h5⟩) fun ux ux e=>e) hs
theorem tn (ok:Ok af K cx sc n) {b:Int} (h:Q (.bool false) σ):de af w cx (bL .Eq) .none (.int b) σ Q E:=
 tq ok (d:=.none) (e:=.int b) rfl rfl rfl rfl (by show min 0 _≤100;(exact dw _)) h
theorem tj (ok:Ok af K cx sc n) {b:Int} (h:Q (.bool true) σ):de af w cx (bL .NotEq) .none (.int b) σ Q E:=
 kI ok (d:=.none) (e:=.int b) rfl rfl rfl rfl (by show min 0 _≤100;(exact dw _)) h
end
section
variable {K:Frag} {cx:CX} {sc:Scope} {n:Nat} {σ σ':AS} {Q:AV→AS→Prop} {QB:Bool→AS→Prop} {QF:AF→AS→Prop} {E:Value→AS→Prop} {pos:Pos}
noncomputable def qL (k:Nat) (S H:Addr):List (Str×AV):=[(aa "cells",.int (2 ^ k)),(aa "spare",.ref S),(aa "held",.ref H)]
structure je (K:Frag) (σ:AS) (y:Addr) (k:Nat) (C dx S H:Addr):Prop where
 cls:nsIn K bk (aa "Yard")=some (some (.ref C))
 y:σ.hp y=some (.inst C dx)
 dx:σ.hp dx=some (.attrs (qL k S H))
structure Yd (K:Frag) (σ:AS) (y:Addr) (k:Nat) (t:BT k) (C dx S H:Addr) (sp hd:List (Int×Int)):Prop where
 is:je K σ y k C dx S H
 sS:σ.hp S=some (.dict sp)
 sH:σ.hp H=some (.dict hd)
 ne:S≠H
 rep:hV t sp hd
 cn:Mine.cn t
 k60:k≤60
 len:hd.length≤2 ^ 15
noncomputable def ng (K:Frag) (E:Value→AS→Prop) (x:String) (σ:AS):Prop:=∀ C,nsIn K bk (aa x)=some (some (.ref C))→E (.ref C) σ
theorem je.sub {y k C dx S H} (h:je K σ y k C dx S H) (s:σ.Sub σ'):je K σ' y k C dx S H:=⟨h.cls,s _ _ h.y,s _ _ h.dx⟩
theorem Yd.sub {y k C dx S H sp hd} {t:BT k} (h:Yd K σ y k t C dx S H sp hd) (s:σ.Sub σ'):Yd K σ' y k t C dx S H sp hd:=⟨h.is.sub s,s _ _ h.sS,s _ _ h.sH,h.ne,h.rep,h.cn,h.k60,h.len⟩
theorem gW {z:Addr} {o:AO} (h:σ.hp z=none):σ.Sub (σ.put z o):=(AS.Sub.refl σ).put h
theorem be {a b:Addr} {o o':AO} (h:σ.hp a=some o) (h':σ.hp b=some o') (n:o≠o'):a≠b:=fun q=>by subst q;rw [h] at h';exact n (by injection h')
noncomputable def AS.books (σ:AS) (S H:Addr) (sp hd:List (Int×Int)):AS:=(σ.put S (.dict sp)).put H (.dict hd)
theorem De {S H sp hd} (ne:S≠H):(σ.books S H sp hd).hp S=some (.dict sp):=bH ne aX
theorem Df {S H sp hd}:(σ.books S H sp hd).hp H=some (.dict hd):=aX
theorem pI {S H sp hd} {a:Addr} {o:Option AO} (h1:a≠S) (h2:a≠H) (h:σ.hp a=o):(σ.books S H sp hd).hp a=o:=bH h2 (bH h1 h)
theorem Yd.books {y k C dx S H sp hd sp' hd'} {t t':BT k} (h:Yd K σ y k t C dx S H sp hd) (r:hV t' sp' hd') (c:Mine.cn t') (l:hd'.length≤2 ^ 15):Yd K (σ.books S H sp' hd') y k t' C dx S H sp' hd':=
  ⟨⟨h.is.cls,pI (be h.is.y h.sS (by intro q;cases q)) (be h.is.y h.sH (by intro q;cases q)) h.is.y,pI (be h.is.dx h.sS (by intro q;cases q)) (be h.is.dx h.sH (by intro q;cases q)) h.is.dx⟩,
    De h.ne,Df,h.ne,r,c,h.k60,l⟩
theorem Yd.splen {y k C dx S H sp hd} {t:BT k} (h:Yd K σ y k t C dx S H sp hd):sp.length≤60 * 2 ^ 15+1:=by
 have h1:=h.rep.len h.cn
 have h2:=h.len
 have h3:=h.k60
 have:k * hd.length≤60 * 2 ^ 15:=Nat.mul_le_mul h3 h2
 lia
inductive rO (K:Frag) (b:Bool) (Q:AV→AS→Prop) (a:AV) (σ:AS):Prop
 |mk (y:Addr) (k:Nat) (t:BT k) (C dx S H:Addr) (sp hd:List (Int×Int)) (ha:a = .ref y) (hY:Yd K σ y k t C dx S H sp hd) (hq:∀ z,σ.hp z=none→Q (.ref z) (σ.put z (.list ((cI b 0 t).map eC)))):rO K b Q a σ
theorem kO {b:Bool} {y k C dx S H sp hd} {t:BT k} (h:Yd K σ y k t C dx S H sp hd) (hq:∀ z,σ.hp z=none→Q (.ref z) (σ.put z (.list ((cI b 0 t).map eC)))):rO K b Q (.ref y) σ:=⟨y,k,t,C,dx,S,H,sp,hd,rfl,h,hq⟩
noncomputable def BD (K:Frag) (E:Value→AS→Prop) (Q:AV→AS→Prop) (l:List AV) (σ:AS):Prop:=∃ v:Int,l=[.int v] ∧
 ((v<1∨2 ^ 60<v∨∀ e:Nat,v≠2 ^ e)→ng K E "NoYard" σ) ∧
 ∀ k:Nat,k≤60→v=2 ^ k→∀ σ' y C dx S H,σ.Sub σ'→σ'.loc=σ.loc→σ.hp y=none→σ.hp dx=none→σ.hp S=none→σ.hp H=none→Yd K σ' y k (.fr:BT k) C dx S H [(0,2 ^ k)] []→Q (.ref y) σ'
theorem E2 {v:Int} (h1:(v<1∨2 ^ 60<v∨∀ e:Nat,v≠2 ^ e)→ng K E "NoYard" σ)
  (h2:∀ k:Nat,k≤60→v=2 ^ k→∀ σ' y C dx S H,σ.Sub σ'→σ'.loc=σ.loc→σ.hp y=none→σ.hp dx=none→σ.hp S=none→σ.hp H=none→Yd K σ' y k (.fr:BT k) C dx S H [(0,2 ^ k)] []→Q (.ref y) σ'):BD K E Q [.int v] σ:=⟨v,rfl,h1,h2⟩
theorem CP {v:Int} {e:Nat} (h:yD v e):(2:Int) ^ e=v↔∃ m:Nat,v=2 ^ m:=by
 constructor
 ·intro q;exact ⟨e,q.symm⟩
 ·rintro ⟨m,rfl⟩
  rw [uT h]
theorem D4 {a:Addr} {o:AO} (s:σ.Sub σ') (h:σ.hp a=some o):σ'.hp a=some o:=s _ _ h
theorem Ek {x:Str} {v:Option AV} (s:σ'.loc=σ.loc) (h:σ.loc x=v):σ'.loc x=v:=by rw [s];exact h
inductive rQ (K:Frag) (E:Value→AS→Prop) (Q:AV→AS→Prop) (y:Addr) (l:List AV) (σ:AS):Prop
 |mk (v:Int) (hl:l=[.int v]) (k:Nat) (t:BT k) (C dx S H:Addr) (sp hd:List (Int×Int)) (hY:Yd K σ y k t C dx S H sp hd) (hlen:hd.length<2 ^ 15) (h1:v<1→ng K E "NoWish" σ) (h2:2 ^ k<v→ng K E "NoRoom" σ) (h3:1≤v→v≤2 ^ k→∀ j,yD v j→j≤k →
  ((∀ p∈cI false 0 t,p.2<2 ^ j)→ng K E "NoRoom" σ) ∧
  ∀ x i,∀ t':BT k,∀ sp',(x,(2:Int) ^ i)∈cI false 0 t→j≤i→(∀ p∈cI false 0 t,2 ^ j≤p.2→(2:Int) ^ i≤p.2∧(p.2=2 ^ i→x≤p.1))→hV t' sp' (hd++[(x,2 ^ j)])→cn t'→Q (.int x) (σ.books S H sp' (hd++[(x,2 ^ j)]))):rQ K E Q y l σ
inductive rP (K:Frag) (E:Value→AS→Prop) (Q:AV→AS→Prop) (y:Addr) (l:List AV) (σ:AS):Prop
 |mk (x:Int) (hl:l=[.int x]) (k:Nat) (t:BT k) (C dx S H:Addr) (sp hd:List (Int×Int)) (hY:Yd K σ y k t C dx S H sp hd) (h1:du hd x=none→ng K E "NotOut" σ) (h2:∀ i,∀ t':BT k,∀ sp',du hd x=some (2 ^ i)→i≤k→hV t' sp' (dS hd x)→cn t'→Q (.int (2 ^ i)) (σ.books S H sp' (dS hd x))):rP K E Q y l σ
inductive DS (K:Frag) (E:Value→AS→Prop) (Q:AV→AS→Prop) (y:Addr) (l:List AV) (σ:AS):Prop
 |mk (v:Int) (hl:l=[.int v]) (k:Nat) (C dx S H:Addr) (hY:je K σ y k C dx S H) (hk:k≤60) (h1:v<1→ng K E "NoWish" σ) (h2:2 ^ k<v→ng K E "NoRoom" σ) (h3:1≤v→v≤2 ^ k→∀ j,yD v j→j≤k→Q (.int (2 ^ j)) σ):DS K E Q y l σ
theorem fit_le {v:Int} {j k:Nat} (h:yD v j) (hv:v≤2 ^ k):j≤k:=by
 rcases dE k j with q|q
 ·have:=h.2.2 k q;lia
 ·exact q
inductive w9 (K:Frag) (Q:AV→AS→Prop) (y:Addr) (l:List AV) (σ:AS):Prop
 |mk (x:Int) (i j:Nat) (hl:l=[.int x,.int (2 ^ i),.int (2 ^ j)]) (hji:j≤i) (hi:i≤60) (k:Nat) (C dx S H:Addr) (sp:List (Int×Int)) (hY:je K σ y k C dx S H) (hS:σ.hp S=some (.dict sp)) (hlen:sp.length≤60 * 2 ^ 15+1) (hno:∀ e,e<i→∀ u,(x+2 ^ e,u)∉sp) (hq:Q .none (σ.put S (.dict (sp++nh x i j)))):w9 K Q y l σ
theorem cT {attr:Str} {x C dx:Addr} {fs:List (Str×AV)} {v:AV} {ca:Option Value} (h1:σ.hp x=some (.inst C dx)) (h2:σ.hp dx=some (.attrs fs)) (h3:plainGet K C attr=true) (h4:hasDictIn K C=true) (h5:findIn K (.ref C) attr=some ca) (h6:noGet K ca=true) (h7:fs.lookup attr=some v) (h8:v.plain=true) (h:Q v σ):rM K attr Q (.ref x) σ:=
 ⟨x,C,dx,fs,v,ca,rfl,h1,h2,h3,h4,h5,h6,h7,h8,h⟩
theorem cS (ok:Ok af K cx sc n) {value:Expr} {attr:Str} (he:∀ env,eval (.Attribute value attr pos) env=(do
   let o ← eval value env
   standAt pos.atName
   let r ← Cz [o] (getAttr o attr true)
   letTemporaryGo value o r
   pure r))
  (h:bZ af w cx value σ (rM K attr Q) E):bZ af w cx (.Attribute value attr pos) σ Q E:=DY ok he h
theorem D8 {attr:Str} {x C dx:Addr} {fs fs':List (Str×AV)} {v:AV} (h1:σ.hp x=some (.inst C dx)) (h2:σ.hp dx=some (.attrs fs)) (h3:findIn K (.ref C) "__setattr__"=some (some (.builtin "object.__setattr__"))) (h4:plainOver K C=true) (h5:takerIn K C attr=some none) (h6:hasDictIn K C=true)
  (h7:ur fs attr v=fs') (h8:fs'.length≤1000) (h:QF .next (σ.put dx (.attrs fs'))):wZ K attr QF v (.ref x) σ:=by subst h7;exact ⟨x,C,dx,fs,rfl,h1,h2,h3,h4,h5,h6,h8,h⟩
theorem ub (ok:Ok af K cx sc n) {o:Expr} {attr:Str} {apos:Pos} {value:Expr} (hs:∀ env,g8 value (some (.Attribute o attr apos)) pos.line env=pure false)
  (h:bZ af w cx value σ (fun v σ₁=>bZ af w cx o σ₁ (wZ K attr QF v) E) E):jv af w cx (.Assign [.Attribute o attr apos] value pos) σ QF E:=xb ok hs h
theorem fq {o:Expr} {name:Str} {apos:Pos} {args:List Expr} (hbase:∀ env,attributeBase o name env (eval o env)=eval o env)
  (hfew:∀ env,((db pos (bv args env)).all (fun x=>!x.1) && (ju pos (eN [] env)).all (fun x=>x.1.isSome) && decide (args.length+([]:List Keyword).length+(if ([]:List Keyword).isEmpty then 0 else 1)<30))=true)
  (hline:(apos.endLine == pos.line)=true) (hpl:∀ env,(db pos (bv args env)).any (·.1)=false)
  (h:bZ af w cx o σ (pO af w cx pos args name Q E) E):bZ af w cx (.Call (.Attribute o name apos) args [] pos) σ Q E:=BW hbase hfew hline hpl h
theorem mG {x:Addr} {d:List (Int×Int)} {args:List Expr} (hx:σ.hp x=some (.dict d)) (h:fN af w cx pos args σ (fun l σ₂=>gd af w cx (.builtin "dict.pop") (.ref x::l) σ₂ Q E) E):pO af w cx pos args (aa "pop") Q E (.ref x) σ:=
 ⟨x,_,"dict","dict.pop",rfl,hx,rfl,PySem.F.plainAttrs_dict,PySem.F.slot_dict_pop,rfl,h⟩
theorem ss {x:Addr} {d:List (Int×Int)} {args:List Expr} (hx:σ.hp x=some (.dict d)) (h:fN af w cx pos args σ (fun l σ₂=>gd af w cx (.builtin "dict.get") (.ref x::l) σ₂ Q E) E):pO af w cx pos args (aa "get") Q E (.ref x) σ:=
 ⟨x,_,"dict","dict.get",rfl,hx,rfl,PySem.F.plainAttrs_dict,PySem.F.slot_dict_get,rfl,h⟩
theorem su {x:Addr} {d:List AV} {args:List Expr} (hx:σ.hp x=some (.list d)) (h:fN af w cx pos args σ (fun l σ₂=>gd af w cx (.builtin "list.append") (.ref x::l) σ₂ Q E) E):pO af w cx pos args (aa "append") Q E (.ref x) σ:=
 ⟨x,_,"list","list.append",rfl,hx,rfl,PySem.F.plainAttrs_list,slot_list_append,rfl,h⟩
noncomputable def DQ (Q:AV→AS→Prop) (x:Addr) (a b:AV) (σ₂:AS):Prop:=∃ i j,a = .int i∧b = .int j∧σ₂.hp x=some (.dict [])∧Q (.ref x) (σ₂.put x (.dict [(i,j)]))
theorem dict1 {x:Addr} {i j:Int} (h:σ.hp x=some (.dict [])) (hq:Q (.ref x) (σ.put x (.dict [(i,j)]))):DQ Q x (.int i) (.int j) σ:=⟨i,j,rfl,rfl,h,hq⟩
theorem yM (ok:Ok af K cx sc n) {k v:Expr} (h:∀ x,σ.hp x=none→bZ af w cx k (σ.put x (.dict [])) (fun a σ₁=>bZ af w cx v σ₁ (DQ Q x a) E) E):bZ af w cx (.Dict [some k] [v] pos) σ Q E:=BX ok h
inductive oD (K:Frag) (F:Addr→AS→Prop) (a:AV) (σ₁:AS):Prop
 |mk (y:Addr) (k:Nat) (C dx S H:Addr) (ha:a = .ref y) (h:je K σ₁ y k C dx S H) (hf:F y σ₁):oD K F a σ₁
theorem jk {F:Addr→AS→Prop} {y k C dx S H} (h:je K σ y k C dx S H) (hf:F y σ):oD K F (.ref y) σ:=⟨y,k,C,dx,S,H,rfl,h,hf⟩
noncomputable abbrev lP (o:Expr) (name:Str) (apos:Pos) (args:List Expr) (pos:Pos):Prop:=(∃ pl:Env→Sem Bool,∀ env,eval (.Call (.Attribute o name apos) args [] pos) env=(do
   let ov ← eval o env
   standAt apos.atName
   let (f,first) ← Cz [ov] (getMethod ov name (pl env))
   kK pos f first (db pos (bv args env)) (ju pos (eN [] env))))∧∀ env,(db pos (bv args env)).any (·.1)=false
theorem il (ok:Ok af K cx sc n) {o:Expr} {name:Str} {apos:Pos} {args:List Expr} {f C:Addr} (hC:nsIn K bk (aa "Yard")=some (some (.ref C))) (h1:plainGet K C name=true) (h2:findIn K (.ref C) name=some (some (.ref f))) (h3:isFn K (.ref f)=true) (h4:keepIn K (.ref f)=true)
  (hn:∀ k S H,(qL k S H).lookup name=none) (he:lP o name apos args pos)
  (h:bZ af w cx o σ (oD K fun y σ₁=>fN af w cx pos args σ₁ (fun l σ₂=>gd af w cx (.ref f) (.ref y::l) σ₂ Q E) E) E):bZ af w cx (.Call (.Attribute o name apos) args [] pos) σ Q E:=by
 obtain ⟨⟨pl,he⟩,hpl⟩:=he
 exact DX ok he hpl (h.imp (fun a σ₁ ⟨y,k,C',dx,S,H,ha,hy,hq⟩=>by
  have:=ft hC hy.cls
  subst this
  exact ⟨y,C,dx,_,f,ha,hy.y,hy.dx,h1,h2,h3,h4,hn k S H,hq⟩) fun ux ux e=>e)
theorem iG {o:Expr} {args:List Expr} {A B:Addr→List AV→AS→Prop} (h:bZ af w cx o σ (oD K fun y σ₁=>fN af w cx pos args σ₁ (A y) E) E) (hi:∀ y l σ,A y l σ→B y l σ):bZ af w cx o σ (oD K fun y σ₁=>fN af w cx pos args σ₁ (B y) E) E:=
 h.imp (fun a σ₁ ⟨y,k,C,dx,S,H,h1,h2,h3⟩=>⟨y,k,C,dx,S,H,h1,h2,h3.imp (fun l σ₂ q=>hi y l σ₂ q) fun ux ux e=>e⟩) fun ux ux e=>e
theorem EL {scope:Scope} {x:Str} {a:AV}:(σ.comp scope x a).loc x=some a:=by unfold AS.comp;simp
theorem yn {scope:Scope} {x y:Str} {a:AV} {v:Option AV} (h1:(scope.names.lookup y == some .free)=true) (h2:y≠x) (h:σ.loc y=v):(σ.comp scope x a).loc y=v:=by
 unfold AS.comp;dsimp only;rw [if_neg h2,if_pos h1];exact h
theorem C3 {scope:Scope} {x:Str} {a:AV} {b:Addr} {u:Option AO} (h:σ.hp b=u):(σ.comp scope x a).hp b=u:=h
theorem AK {ps:List Str} {l:List AV} {b:Addr} {u:Option AO} (h:σ.hp b=u):(σ.enter ps l).hp b=u:=h
theorem eD {z D:Addr} {o:AO} (h:(σ.put z o).hp D=none):σ.hp D=none∧D≠z:=by
 unfold AS.put at h
 dsimp only at h
 split at h
 ·cases h
 ·rename_i q;exact ⟨h,q⟩
theorem e9:σ.Le σ:=⟨fun ux ux e=>e,fun ux ux e=>e⟩
theorem jK {σ₀:AS} {z:Addr} {o:AO} (h:σ₀.Le σ) (hz:σ.hp z=none):σ₀.Le (σ.put z o):=⟨h.1,fun a b e=>by
 have:=h.2 a b e
 exact bH (fun q=>by subst q;rw [hz] at this;cases this) this⟩
theorem nU {σ₀:AS} {z:Addr} {o:AO} (h:σ₀.Le σ):(σ₀.put z o).Le (σ.put z o):=⟨h.1,fun a b e=>by
 unfold AS.put at e ⊢
 dsimp only at e ⊢
 split
 ·rename_i q;rw [if_pos q] at e;exact e
 ·rename_i q;rw [if_neg q] at e;exact h.2 a b e⟩
theorem gX (g:Fx af K cx sc n) {x:Addr} {d:List (Int×Int)} (hx:σ.hp x=some (.dict d)) (hz:d.length≤aH) (h:∀ y,σ.hp y=none→Q (.ref y) (σ.put y (.list ((d.map (·.1)).map AV.int)))):gd af w cx (.type "list") [.ref x] σ Q E:=
 ry g hx hz fun y hy=>by have:=h y hy;rw [bn] at this;exact this
noncomputable def NewL (Q:AV→AS→Prop) (l:List AV) (σ:AS):Prop:=l.length≤aH∧∀ x,σ.hp x=none→Q (.ref x) (σ.put x (.list l))
theorem iu {l:List AV} (hz:l.length≤aH) (h:∀ x,σ.hp x=none→Q (.ref x) (σ.put x (.list l))):NewL Q l σ:=⟨hz,h⟩
theorem dO {elts:List Expr} (h:fN af w cx pos elts σ (NewL Q) E):bZ af w cx (.List elts pos) σ Q E:=CW h
theorem fJ {a b:Addr} {o u:AO} (h:σ.hp a=none) (h':σ.hp b=some u):(σ.put a o).hp b=some u:=bH (fun q=>by subst q;rw [h] at h';cases h') h'
theorem uq {D b:Addr} {o o':AO} {u:Option AO} (h:(σ.put D o').hp b=u):((σ.put D o).put D o').hp b=u:=by rw [mB];exact h
theorem yY {a b:Addr} {o o₁ u:AO} (ha:σ.hp a=some o₁) (hb:σ.hp b=some u) (ne:o₁≠u):(σ.put a o).hp b=some u:=bH (be hb ha (bl ne)) hb
noncomputable def vK (d:List (Int×Int)):AV→AV
 | .int a=>eC (a,(du d a).getD 0)
 |v=>v
theorem qS {d:List (Int×Int)} {p:Int×Int} (h:du d p.1=some p.2):AV.tup [.int p.1,.int p.2]=vK d (.int p.1):=by show _=eC (p.1,(du d p.1).getD 0);rw [h];rfl
theorem qi {b:Bool} {k:Nat} {t:BT k} {d:List (Int×Int)} (hd:d.Perm (cI b 0 t)):((((cI b 0 t).map (·.1)).map AV.int).filter fun ux=>true).map (vK d)=(cI b 0 t).map eC:=by
 rw [bS.mpr (fun ux ux=>rfl),bn,bn]
 refine jc fun p hp=>?_
 exact (qS (hU hd hp)).symm
theorem qj {b:Bool} {k:Nat} {t:BT k} {i:Nat} {a:AV} (h:(((cI b 0 t).map (·.1)).map AV.int)[i]?=some a):∃ p∈cI b 0 t,a = .int p.1:=by
 have:=aE h
 rw [bn] at this
 obtain ⟨p,hp,rfl⟩:=bx.mp this
 exact ⟨p,hp,rfl⟩
theorem sd {b:Bool} {k:Nat} {t:BT k} {d:List (Int×Int)} {N:Nat} (hd:d.Perm (cI b 0 t)) (h:d.length≤N):(((cI b 0 t).map (·.1)).map AV.int).length≤N:=by
 rw [aj,aj,← hd.length_eq];exact h
noncomputable def AS.But (σ:AS) (S H:Addr) (σ':AS):Prop:=∀ a o,a≠S→a≠H→σ.hp a=some o→σ'.hp a=some o
theorem u7 {S H a:Addr} {o:AO} (h:σ.But S H σ') (h1:a≠S) (h2:a≠H) (e:σ.hp a=some o):σ'.hp a=some o:=h a o h1 h2 e
theorem xa {σ₁:AS} {y dx S H C:Addr} {e:Nat} {fs1 fs2:List (Str×AV)} {ps:List Str} {ls:List AV} (hy:σ₁.hp y=none) (hdx:σ₁.hp dx=none) (hne:y≠dx)
  (hS:((((σ₁.put dx (.attrs [])).put y (.inst C dx)).enter ps ls).put dx (.attrs fs1)).hp S=none)
  (hH:(((((((σ₁.put dx (.attrs [])).put y (.inst C dx)).enter ps ls).put dx (.attrs fs1)).put S (.dict [])).put S (.dict [(0,2 ^ e)])).put dx (.attrs fs2)).hp H=none)
  (hc:nsIn K bk (aa "Yard")=some (some (.ref C))) (he:e≤60) :
  ∃ σ₀:AS,σ₀.Le ⟨σ₁.loc,(((((((((σ₁.put dx (.attrs [])).put y (.inst C dx)).enter ps ls).put dx (.attrs fs1)).put S (.dict [])).put S (.dict [(0,2 ^ e)])).put dx (.attrs fs2)).put H (.dict [])).put dx (.attrs (qL e S H))).hp⟩∧σ₁.Sub σ₀∧σ₀.loc=σ₁.loc∧σ₁.hp S=none∧σ₁.hp H=none∧Yd K σ₀ y e (.fr:BT e) C dx S H [(0,2 ^ e)] []:=by
 have hS1:=eD hS
 have hS2:=eD (show ((σ₁.put dx (.attrs [])).put y (.inst C dx)).hp S=none from hS1.1)
 have hS3:=eD hS2.1
 have As:=eD hH
 have hH2:=eD As.1
 have hH3:=eD hH2.1
 have hH4:=eD hH3.1
 have hH5:=eD (show ((σ₁.put dx (.attrs [])).put y (.inst C dx)).hp H=none from hH4.1)
 have hH6:=eD hH5.1
 refine ⟨⟨σ₁.loc,fun a=>if a=dx then some (.attrs (qL e S H)) else if a=H then some (.dict []) else if a=S then some (.dict [(0,2 ^ e)]) else if a=y then some (.inst C dx) else σ₁.hp a⟩,⟨fun ux ux q=>q,fun a o q=>?_⟩,
  (fun a o q=>?_),rfl,hS3.1,hH6.1,⟨⟨hc,?_,?_⟩,?_,?_,bl hH2.2,Cc e,by cases e <;> exact trivial,he,by decide⟩⟩
 ·dsimp only [AS.put,AS.enter] at q ⊢
  by_cases c1:a=dx
  ·simp only [c1,if_true] at q ⊢;exact q
  ·simp only [c1,if_false] at q ⊢
   by_cases c2:a=H
   ·simp only [c2,if_true] at q ⊢;exact q
   ·simp only [c2,if_false] at q ⊢
    by_cases c3:a=S
    ·simp only [c3,if_true] at q ⊢;exact q
    ·simp only [c3,if_false] at q ⊢
     exact q
 ·dsimp only
  have n1:a≠dx:=fun z=>by subst z;rw [hdx] at q;cases q
  have n2:a≠H:=fun z=>by subst z;rw [hH6.1] at q;cases q
  have n3:a≠S:=fun z=>by subst z;rw [hS3.1] at q;cases q
  have n4:a≠y:=fun z=>by subst z;rw [hy] at q;cases q
  simp only [n1,n2,n3,n4,if_false];exact q
 ·dsimp only
  simp only [hne,bl hH5.2,bl hS2.2,if_false,if_true]
 ·simp only [if_true]
 ·simp only [hS1.2,bl hH2.2,if_false,if_true]
 ·simp only [As.2,if_false,if_true]
theorem i0 (ok:Ok af K cx sc n) {x y:Addr} {ps:List (Int×Int)} (hx:σ.lst x (ps.map eC)) (hy:σ.lst y []) (h:Q (.bool (decide (ps=[]))) σ):de af w cx (bL .Eq) (.ref x) (.ref y) σ Q E:=pF (qs:=[]) ok hx hy h
theorem se {S:Addr} {a b:AO} (h:(σ.put S a).Sub σ'):(σ.put S b).Sub (σ'.put S b):=fun c o e=>by
 by_cases q:c=S
 ·subst q;rw [aX] at e;rw [aX];exact e
 ·unfold AS.put at e
  dsimp only at e
  rw [if_neg q] at e
  exact bH q (h c o (bH q e))
theorem mJ {S H:Addr} {sp hd:List (Int×Int)} {l:Str→Option AV} {f:Addr→Option AO} (h0:l=σ.loc) (h1:f S=some (.dict sp)) (h2:f H=some (.dict hd)) (h3:∀ a o,a≠S→a≠H→σ.hp a=some o→f a=some o):(σ.books S H sp hd).Le ⟨l,f⟩:=
 ⟨fun _ _ e=>by rw [h0];exact e,fun a o e=>by
  show f a=some o
  unfold AS.books AS.put at e
  dsimp only at e
  split at e
  ·rename_i q;subst q;rw [← e];exact h2
  ·split at e
   ·rename_i q;subst q;rw [← e];exact h1
   ·rename_i q1 q2;exact h3 a o q2 q1 e⟩
noncomputable def fv:Option Int→AV
 |none=> .none
 |some x=> .int x
theorem vO {b:Bool} {k:Nat} {t:BT k} {x s:Int} (h:(x,s)∈cI b 0 t):∃ i,i≤k∧s=2 ^ i:=by
 obtain ⟨i,C,hC,_,e⟩:=Cx.find h
 exact ⟨i,hC.le,e⟩
theorem take_snoc {l:List Int} {i:Nat} {a:Int} (h:l[i]?=some a):l.take (i+1)=l.take i++[a]:=by
 obtain ⟨hi,rfl⟩:=aF.mp h
 rw [List.take_add_one,aO hi];rfl
theorem uk {b:Bool} {k:Nat} {t:BT k} {i:Nat} {a:AV} (h:(((cI b 0 t).map (·.1)).map AV.int)[i]?=some a):∃ p∈cI b 0 t,a = .int p.1∧((cI b 0 t).map (·.1))[i]?=some p.1∧∀ q∈((cI b 0 t).map (·.1)).take i,q≤p.1:=by
 rw [aR] at h
 obtain ⟨x,hx,rfl⟩:=bT.mp h
 have hx':=hx
 rw [aR] at hx
 obtain ⟨p,hp,rfl⟩:=bT.mp hx
 refine ⟨p,aE hp,rfl,hx',fun q hq=>?_⟩
 obtain ⟨j,hj,rfl⟩:=oj hq
 obtain ⟨hi,e⟩:=aF.mp hx'
 rw [qF,← e]
 have hj':j<i:=by rw [bh] at hj;lia
 exact (dp.mp (jY t (a:=0) (b:=b))) j i (by lia) hi hj'
theorem Dx (h:Q (.bool true) σ):de af w cx (bL .Is) .none .none σ Q E:=nW h rfl
theorem Dy {i:Int} (h:Q (.bool false) σ):de af w cx (bL .Is) (.int i) .none σ Q E:=nW h rfl
theorem sF {X Y:Prop} (h:Y):if (none:Option Int).isSome=true then X else Y:=by simpa using h
theorem sE {a:Int} {X Y:Prop} (h:X):if (some a:Option Int).isSome=true then X else Y:=by simpa using h
noncomputable def BH (Q:AV→AS→Prop) (l:List AV) (σ:AS):Prop:=∃ v:Int,l=[.int v]∧v<2 ^ 80∧Q (.int (2 ^ fe v)) σ
noncomputable def Dt (Q:AV→AS→Prop) (l:List AV) (σ:AS):Prop:=∃ (x:Addr) (ns:List Int),l=[.ref x]∧σ.hp x=some (.ro (ns.map AV.int))∧ns.length≤63∧∀ k:Nat,k≤60→Q (.int (2 ^ k)) σ
noncomputable def w8 (Q:AV→AS→Prop) (l:List AV) (σ:AS):Prop:=∃ (c:Int) (k:Nat),l=[.int c,.int (2 ^ k)]∧k≤60∧∀ v:Int,v<2 ^ 70→Q (.int v) σ
theorem Ax {v:Int} {e:Nat} (h:yD v e):e=fe v:=by
 have h1:=(jN v e).mpr h.2.1
 rcases dE (fe v) e with q|q
 ·have:=h.2.2 _ q;have:=DE v;lia
 ·(exact ce (by assumption) (by assumption))
theorem E3 {x:Int} {y k C dx S H sp hd} {t:BT k} (hY:Yd K σ y k t C dx S H sp hd) (h1:du hd x=none→ng K E "NotOut" σ)
  (h2:∀ i,∀ t':BT k,∀ sp',du hd x=some (2 ^ i)→i≤k→Yd K (σ.books S H sp' (dS hd x)) y k t' C dx S H sp' (dS hd x)→Q (.int (2 ^ i)) (σ.books S H sp' (dS hd x))):rP K E Q y [.int x] σ:=
 ⟨x,rfl,k,t,C,dx,S,H,sp,hd,hY,h1,fun i t' sp' a b r c=>h2 i t' sp' a b (hY.books r c (aI kG hY.len))⟩
theorem E5 {v:Int} {y k C dx S H sp hd} {t:BT k} (hY:Yd K σ y k t C dx S H sp hd) (hl:hd.length<2 ^ 15) (h1:v<1→ng K E "NoWish" σ) (h2:2 ^ k<v→ng K E "NoRoom" σ)
  (h3:1≤v→v≤2 ^ k→fe v≤k→(∀ p∈cI false 0 t,p.2<2 ^ fe v)→ng K E "NoRoom" σ)
  (h4:1≤v→v≤2 ^ k→fe v≤k→∀ x i,∀ t':BT k,∀ sp',(x,(2:Int) ^ i)∈cI false 0 t→fe v≤i→(∀ p∈cI false 0 t,2 ^ fe v≤p.2→(2:Int) ^ i≤p.2∧(p.2=2 ^ i→x≤p.1)) →
   Yd K (σ.books S H sp' (hd++[(x,2 ^ fe v)])) y k t' C dx S H sp' (hd++[(x,2 ^ fe v)])→Q (.int x) (σ.books S H sp' (hd++[(x,2 ^ fe v)]))):rQ K E Q y [.int v] σ:=
 ⟨v,rfl,k,t,C,dx,S,H,sp,hd,hY,hl,h1,h2,fun q1 q2 j hj hjk=>by
  obtain rfl:=Ax hj
  exact ⟨fun q=>h3 q1 q2 hjk q,fun x i t' sp' a b c r d=>h4 q1 q2 hjk x i t' sp' a b c (hY.books r d (by rw [au];exact hl))⟩⟩
theorem ph {c m:Int} (h:0<m):0≤c % m:=jB _ (by lia)
theorem rc {c m M:Int} (h:0<m) (hM:m≤M):c % m<M:=Int.lt_of_lt_of_le (fE c h) hM
theorem vR {c m:Int} {k:Nat} (h:0<m) (hk:m≤k+1):(c % m).toNat≤k:=by
 have h1:=ph (c:=c) h
 have h2:=rc (c:=c) h hk
 lia
theorem xx {c:Int}:(40+c % 21).toNat≤60:=by lia
theorem y7 {c:Int}:0≤40+c % 21∧40+c % 21<2 ^ 20:=by lia
theorem lw1 {r:Int}:1+r % 9<2 ^ 70:=by lia
theorem lw2 {a d r:Int} (h0:0<a) (h1:a≤2 ^ 60):a / d+r % 3 - 1<2 ^ 70:=by
 have:=Int.ediv_le_self d (gU h0)
 lia
theorem lw3 {a r:Int} (h0:0<a) (h1:a≤2 ^ 60):1+r % a<2 ^ 70:=by
 have:=fE r h0
 lia
theorem lw4 {a r v:Int} (h1:a≤2 ^ 60) (hm:v∈[0,-1 - r % 10 ^ 30,a+1+r % 10 ^ 20]):v<2 ^ 70:=by
 rcases aQ.mp hm with q|hm
 ·lia
 ·rcases aQ.mp hm with q|hm
  ·lia
  ·rcases aQ.mp hm with q|hm
   ·lia
   ·cases hm
theorem lt3 {r:Int} {l:List Int} (h:l.length=3):r % 3<(l.length:Int):=by rw [h];lia
noncomputable abbrev Kb2 (af:aV) (w:World) (cx:CX) (op:Value→Value→Sem Value) (Q:AV→AS→Prop) (E:Value→AS→Prop) (a b:AV) (σ:AS):Prop:=de af w cx op a b σ Q E
noncomputable abbrev Kb1 (af:aV) (w:World) (cx:CX) (rr:Expr) (op:Value→Value→Sem Value) (Q:AV→AS→Prop) (E:Value→AS→Prop) (a:AV) (σ:AS):Prop:=bZ af w cx rr σ (Kb2 af w cx op Q E a) E
noncomputable def DK (QB:Bool→AS→Prop) (v:AV) (σ:AS):Prop:=∃ c,v = .bool c∧QB c σ
noncomputable abbrev Ka2 (Q:List AV→AS→Prop) (a:AV) (l:List AV) (σ:AS):Prop:=Q (a::l) σ
noncomputable abbrev Ka1 (af:aV) (w:World) (cx:CX) (pos:Pos) (rest:List Expr) (Q:List AV→AS→Prop) (E:Value→AS→Prop) (a:AV) (σ:AS):Prop:=fN af w cx pos rest σ (Ka2 Q a) E
noncomputable abbrev Kcl (af:aV) (w:World) (cx:CX) (f:Value) (Q:AV→AS→Prop) (E:Value→AS→Prop) (l:List AV) (σ:AS):Prop:=gd af w cx f l σ Q E
noncomputable abbrev Kif (af:aV) (w:World) (cx:CX) (b o:List Stmt) (QF:AF→AS→Prop) (E:Value→AS→Prop) (c:Bool) (σ:AS):Prop:=if c then cf af w cx b σ QF E else cf af w cx o σ QF E
noncomputable abbrev Kset (x:Str) (QF:AF→AS→Prop) (a:AV) (σ:AS):Prop:=QF .next (σ.set x a)
noncomputable abbrev Kret (QF:AF→AS→Prop) (a:AV) (σ:AS):Prop:=QF (.ret a) σ
noncomputable def Knx (af:aV) (w:World) (cx:CX) (rest:List Stmt) (QF:AF→AS→Prop) (E:Value→AS→Prop):AF→AS→Prop
 | .next,σ=>cf af w cx rest σ QF E
 |f,σ=>QF f σ
noncomputable abbrev Knot (QB:Bool→AS→Prop) (c:Bool) (σ:AS):Prop:=QB (!c) σ
noncomputable abbrev Kand (af:aV) (w:World) (cx:CX) (pos:Pos) (es:List Expr) (QB:Bool→AS→Prop) (E:Value→AS→Prop) (c:Bool) (σ:AS):Prop:=if c then Bn af w cx pos .And es σ QB E else QB false σ
noncomputable abbrev Kor (af:aV) (w:World) (cx:CX) (pos:Pos) (es:List Expr) (QB:Bool→AS→Prop) (E:Value→AS→Prop) (c:Bool) (σ:AS):Prop:=if c then QB true σ else Bn af w cx pos .Or es σ QB E
noncomputable abbrev Kvand (af:aV) (w:World) (cx:CX) (pos:Pos) (es:List Expr) (Q:AV→AS→Prop) (E:Value→AS→Prop) (c:Bool) (σ:AS):Prop:=if c then bZ af w cx (.BoolOp .And es pos) σ Q E else Q (.bool false) σ
noncomputable abbrev Ku (af:aV) (w:World) (cx:CX) (op:Value→Sem Value) (Q:AV→AS→Prop) (E:Value→AS→Prop) (a:AV) (σ:AS):Prop:=Dl af w cx op a σ Q E
noncomputable abbrev Kdrop (QF:AF→AS→Prop) (_:AV) (σ:AS):Prop:=QF .next σ
theorem cG {l rr:Expr} {op:Operator} (h:bZ af w cx l σ (Kb1 af w cx rr (kM op) Q E) E):bZ af w cx (.BinOp l op rr pos) σ Q E:=EI h
theorem sC {l rr:Expr} {op:CmpOp} (hm:oO op rr=false) (h:bZ af w cx l σ (Kb1 af w cx rr (bL op) Q E) E):bZ af w cx (.Compare l [op] [rr] pos) σ Q E:=v_cmp hm h
theorem bI {l rr:Expr} {op:CmpOp} (hm:oO op rr=false) (h:bZ af w cx l σ (Kb1 af w cx rr (bL op) (DK QB) E) E):og af w cx (.Compare l [op] [rr] pos) σ QB E:=t_cmp hm h
theorem dc {value slice:Expr} (h:bZ af w cx value σ (Kb1 af w cx slice (cO value slice) Q E) E):bZ af w cx (.Subscript value slice pos) σ Q E:=EG h
theorem fn {b:Bool} (h:QB b σ):DK QB (.bool b) σ:=⟨b,rfl,h⟩
theorem rf {e:Expr} (he:∀ env,isTrue e env (eval e env)=(do let v ← eval e env;standAt e.pos;Cz [v] (truthy v))) (h:bZ af w cx e σ (DK QB) E):og af w cx e σ QB E:=t_val he h
theorem Er {e:Expr} {rest:List Expr} {Q:List AV→AS→Prop} (he:∀ env,bv (e::rest) env=(false,eval e env)::bv rest env) (h:bZ af w cx e σ (Ka1 af w cx pos rest Q E) E):fN af w cx pos (e::rest) σ Q E:=vn he h
theorem c9 (g:Ok af K cx sc n) {x:Str} {px:Pos} {args:List Expr} {id:String} (hx:sc.names.lookup x=some .globalImplicit) (e:nsIn K bk x=some none) (hn:x≠"__name__") (hb:fK x=some (.builtin id))
  (hd:(x == ("__debug__":Str))=false) (hp:eB x px args pos) (h:fN af w cx pos args σ (Kcl af w cx (.builtin id) Q E) E):bZ af w cx (.Call (.Name x px) args [] pos) σ Q E:=BZ g hx e hn hb hd hp.1 hp.2 h
theorem dQ (g:Ok af K cx sc n) {x:Str} {px:Pos} {args:List Expr} {id:String} (hx:sc.names.lookup x=some .globalImplicit) (e:nsIn K bk x=some none) (hn:x≠"__name__") (hb:fK x=some (.type id))
  (hd:(x == ("__debug__":Str))=false) (hp:eB x px args pos) (h:fN af w cx pos args σ (Kcl af w cx (.type id) Q E) E):bZ af w cx (.Call (.Name x px) args [] pos) σ Q E:=BY g hx e hn hb hd hp.1 hp.2 h
theorem eF {test:Expr} {body orelse:List Stmt} (h:og af w cx test σ (Kif af w cx body orelse QF E) E):jv af w cx (.If test body orelse pos) σ QF E:=ex_if h
theorem aT (g:Ok af K cx sc n) {x:Str} {value:Expr} {pos':Pos} (hx:sc.names.lookup x=some .local) (hs:g8 value (some (.Name x pos')) pos.line cx.env=pure false) (h:bZ af w cx value σ (Kset x QF) E):jv af w cx (.Assign [.Name x pos'] value pos) σ QF E:=yI g hx hs h
theorem jm (g:Ok af K cx sc n) {x:Str} {value:Expr} {pos':Pos} (hx:sc.names.lookup x=some .cell) (h:bZ af w cx value σ (Kset x QF) E):jv af w cx (.Assign [.Name x pos'] value pos) σ QF E:=xd g hx h
theorem cF {e:Expr} (h:bZ af w cx e σ (Kret QF) E):jv af w cx (.Return (some e) pos) σ QF E:=EF h
theorem av {st:Stmt} {rest:List Stmt} (h:jv af w cx st σ (Knx af w cx rest QF E) E):cf af w cx (st::rest) σ QF E:=AA (h.imp (fun f σ₁ q=>by cases f <;> exact q) fun ux ux e=>e)
theorem a' {rest:List Stmt} (h:cf af w cx rest σ QF E):Knx af w cx rest QF E .next σ:=h
theorem ch {rest:List Stmt} {v:AV} (h:QF (.ret v) σ):Knx af w cx rest QF E (.ret v) σ:=h
theorem vW {e:Expr} (h:og af w cx e σ (Knot QB) E):og af w cx (.UnaryOp .Not e pos) σ QB E:=D0 h
theorem qt {e:Expr} {es:List Expr} (h:og af w cx e σ (Kand af w cx pos es QB E) E):Bn af w cx pos .And (e::es) σ QB E:=D3 h
theorem mK {e:Expr} {es:List Expr} (h:og af w cx e σ (Kor af w cx pos es QB E) E):Bn af w cx pos .Or (e::es) σ QB E:=tl_or h
theorem uE {e₁ e₂:Expr} {es:List Expr} (h:bZ af w cx e₁ σ (DK (Kvand af w cx pos (e₂::es) Q E)) E):bZ af w cx (.BoolOp .And (e₁::e₂::es) pos) σ Q E:=EJ h
theorem k_un {e:Expr} {op:UnaryOp} (h:bZ af w cx e σ (Ku af w cx (unaryOp op) Q E) E):bZ af w cx (.UnaryOp op e pos) σ Q E:=ev_un h
theorem gM (ok:Ok af K cx sc n) {v:Expr} (hs:∀ env,g8 v none pos.line env=pure false) (h:bZ af w cx v σ (Kdrop QF) E):jv af w cx (.Expr v pos) σ QF E:=BO ok hs h
end
set_option tactic.hygienic true
section
variable {K:Frag} {cx:CX} {sc:Scope} {n:Nat} {σ σ':AS} {Q:AV→AS→Prop} {QB:Bool→AS→Prop} {QF:AF→AS→Prop} {E:Value→AS→Prop} {pos:Pos}
inductive BI (K:Frag) (E:Value→AS→Prop) (Q:AV→AS→Prop) (y:Addr) (l:List AV) (σ:AS):Prop
 |mk (x:Int) (i j:Nat) (hl:l=[.int x,.int (2 ^ i),.int (2 ^ j)]) (hij:i<j) (k:Nat) (t:BT k) (C dx S H:Addr) (sp hd:List (Int×Int)) (hY:Yd K σ y k t C dx S H sp hd) (hjk:j≤k)
  (h1:(x % 2 ^ j≠0∨∃ m,i≤m∧m<j∧(x+2 ^ m,(2:Int) ^ m)∉cI false 0 t)→ng K E "NoRoom" σ)
  (h2:x % 2 ^ j=0→(∀ m,i≤m→m<j→(x+2 ^ m,(2:Int) ^ m)∈cI false 0 t)→Q .none (σ.put S (.dict (iW sp (g7 x i j))))):BI K E Q y l σ
inductive BF (K:Frag) (E:Value→AS→Prop) (Q:AV→AS→Prop) (y:Addr) (l:List AV) (σ:AS):Prop
 |mk (x v:Int) (hl:l=[.int x,.int v]) (k:Nat) (t:BT k) (C dx S H:Addr) (sp hd:List (Int×Int)) (hY:Yd K σ y k t C dx S H sp hd)
  (h0:du hd x=none→ng K E "NotOut" σ) (h1:∀ i,du hd x=some (2 ^ i)→i≤k→v<1→ng K E "NoWish" σ) (h2:∀ i,du hd x=some (2 ^ i)→i≤k→2 ^ k<v→ng K E "NoRoom" σ)
  (h3:∀ i j,du hd x=some (2 ^ i)→i≤k→1≤v→v≤2 ^ k→yD v j→j≤k→i<j→(x % 2 ^ j≠0∨∃ m,i≤m∧m<j∧(x+2 ^ m,(2:Int) ^ m)∉cI false 0 t)→ng K E "NoRoom" σ)
  (h4:∀ i j,du hd x=some (2 ^ i)→i≤k→1≤v→v≤2 ^ k→yD v j→j≤k→∀ t':BT k,∀ sp',(j≤i∨(i<j∧x % 2 ^ j=0∧∀ m,i≤m→m<j→(x+2 ^ m,(2:Int) ^ m)∈cI false 0 t))→hV t' sp' (iH hd x (2 ^ j))→cn t'→Q (.int (2 ^ j)) (σ.books S H sp' (iH hd x (2 ^ j)))):BF K E Q y l σ
end
set_option tactic.hygienic false
section
variable {K:Frag} {cx:CX} {sc:Scope} {n:Nat} {σ σ' σ₀:AS} {Q:AV→AS→Prop} {QB:Bool→AS→Prop} {QF:AF→AS→Prop} {E:Value→AS→Prop} {pos:Pos}
theorem jL {x:Addr} {b:Int} (h:σ.hp x=some (.range 0 b 1)) (h0:0≤b) (h1:b<2 ^ 62):Drawn σ (.ref x) ((iR b.toNat).map fun i:Nat=>AV.int i):=by
 have:=yC.range (σ:=σ) (J:=fun σ'=>∃ D ao,σ.hp D=none∧σ'=σ.put D ao) h (by decide) (small_one (by decide) (by decide) (by lia) h1)
 rw [rangeSize_one h0,Int.sub_zero] at this
 have e:(fun i:Nat=>AV.int (0+(i:Int) * 1))=fun i:Nat=>AV.int i:=by funext i;rw [Int.mul_one,Int.zero_add]
 rw [e] at this
 exact this
theorem B5 {value slice:Expr} {x:Addr} {hs:List (Int×Int)} {i:Int} (hl:σ.lst x (hs.map eC)) (hlo:0≤i) (hhi:i<hs.length) (hz:hs.length≤aH) (h:∀ p,hs[i.toNat]?=some p→Q (eC p) σ)
  (hs':∀ o i,eA slice false o i=mF [o,i] (lC o i)):de af w cx (cO value slice) (.ref x) (.int i) σ Q E:=by
 have lt:i.toNat<hs.length:=by lia
 exact gH hl hlo (by have:aH=2 ^ 24:=rfl;lia) (a:=eC hs[i.toNat]) (by rw [aR,aO lt];rfl) (h _ (aO lt)) hs'
noncomputable def neP (p:Int×Int):AV→Bool
 | .tup [.int a,.int b]=>!decide ((a,b)=p)
 |_=>true
theorem wN {p:Int×Int}:∀ {hs:List (Int×Int)},((hs.map eC).filter (neP p)).map id=(hs.filter fun q=>!decide (q=p)).map eC
 |[]=>rfl
 |q::hs=>by
  have ih:=@wN p hs
  have e:neP p (eC q) = !decide (q=p):=rfl
  rw [jZ] at ih ⊢
  rw [aM,cj,cj,e]
  cases (!decide (q=p)) with
  |true=>rw [if_pos rfl,if_pos rfl,aM,ih]
  |false=>rw [if_neg (by decide),if_neg (by decide),ih]
theorem jG {hs:List (Int×Int)} {i:Nat} {a:AV} (h:(hs.map eC)[i]?=some a):∃ p,hs[i]?=some p∧a=eC p:=by
 rw [aR] at h
 obtain ⟨p,hp,rfl⟩:=bT.mp h
 exact ⟨p,hp,rfl⟩
theorem iC (ok:Ok af K cx sc n) {y:Str} {elt:Expr} {gens:List Comprehension} {scope:Scope} {pos':Pos} {ln:Nat} (hy:sc.names.lookup y=some .local) (h2:(pos'.line == pos.line)=true)
  (h3:(scope.names.any fun (n,k)=>n == y && (k == .local || k == .cell))=false):g8 (.ListComp elt gens scope pos) (some (.Name y pos')) ln cx.env=pure true:=by
 have hk:cx.env.kindOf y=some .local:=by unfold tR;rw [ok.scope];exact hy
 have hb:cx.env.blockKind = .function:=by unfold Env.blockKind;rw [ok.scope,ok.kind];rfl
 show (pure (cx.env.blockKind == .function && cx.env.kindOf y == some .local && pos'.line == pos.line && !(scope.names.any fun (n,k)=>n == y && (k == .local || k == .cell))):Sem Bool)=pure true
 rw [hk,hb,h2,h3];rfl
inductive YH (K:Frag) (σ₀ σ:AS) (y C dx S H:Addr) (k:Nat) (z:Addr) (M:Nat):Prop
 |mk (t:BT k) (sp hd hs:List (Int×Int)) (hY:Yd K σ y k t C dx S H sp hd) (hz:σ.hp z=some (.list (hs.map eC))) (hp:hs.Perm hd) (hl:hd.length≤M) (but:σ₀.But S H σ):YH K σ₀ σ y C dx S H k z M
theorem YH.loc {y C dx S H:Addr} {k:Nat} {z:Addr} {M:Nat} {l:Str→Option AV} (h:YH K σ₀ σ y C dx S H k z M):YH K σ₀ ⟨l,σ.hp⟩ y C dx S H k z M:=
 let ⟨t,sp,hd,hs,hY,hz,hp,hl,but⟩:=h
 ⟨t,sp,hd,hs,⟨⟨hY.is.cls,hY.is.y,hY.is.dx⟩,hY.sS,hY.sH,hY.ne,hY.rep,hY.cn,hY.k60,hY.len⟩,hz,hp,hl,but⟩
theorem AS.But.refl {S H:Addr}:σ.But S H σ:=fun ux ux ux ux q=>q
theorem AS.But.trans {S H:Addr} (h:σ₀.But S H σ) (h':σ.But S H σ'):σ₀.But S H σ':=fun a o n1 n2 q=>h' a o n1 n2 (h a o n1 n2 q)
theorem AS.But.sub {S H:Addr} (h:σ.Sub σ'):σ.But S H σ':=fun a o ux ux q=>h a o q
theorem AS.But.at {S H a:Addr} {o:AO} {sp hd:List (Int×Int)} (h:σ.But S H σ') (hS:σ.hp S=some (.dict sp)) (hH:σ.hp H=some (.dict hd)) (ho:σ.hp a=some o) (n:∀ d,o ≠ .dict d):σ'.hp a=some o:=
 h a o (be ho hS (n _)) (be ho hH (n _)) ho
theorem gt {l:Str→Option AV} {fl:AF} (h:Q (lI fl) ⟨l,σ.hp⟩):Fj Q l fl σ:=⟨_,e9,h⟩
theorem nJ {S H:Addr} {sp hd:List (Int×Int)}:σ.But S H (σ.books S H sp hd):=fun a o n1 n2 q=>pI n1 n2 q
theorem wY {v:Int} {y k C dx S H sp hd} {t:BT k} (hY:Yd K σ y k t C dx S H sp hd) (hl:hd.length<2 ^ 15) (h1:v<1→ng K E "NoWish" σ) (h2:2 ^ k<v→ng K E "NoRoom" σ)
  (h3:1≤v→v≤2 ^ k→fe v≤k→(∀ p∈cI false 0 t,p.2<2 ^ fe v)→ng K E "NoRoom" σ)
  (h4:1≤v→v≤2 ^ k→fe v≤k→∀ x i,∀ t':BT k,∀ sp' σ',(x,(2:Int) ^ i)∈cI false 0 t→fe v≤i→(∀ p∈cI false 0 t,2 ^ fe v≤p.2→(2:Int) ^ i≤p.2∧(p.2=2 ^ i→x≤p.1)) →
   σ'.loc=σ.loc→σ.But S H σ'→Yd K σ' y k t' C dx S H sp' (hd++[(x,2 ^ fe v)])→Q (.int x) σ'):rQ K E Q y [.int v] σ:=
 E5 hY hl h1 h2 h3 fun q1 q2 q3 x i t' sp' a b c d=>h4 q1 q2 q3 x i t' sp' _ a b c rfl nJ d
theorem oP {x:Int} {y k C dx S H sp hd} {t:BT k} (hY:Yd K σ y k t C dx S H sp hd) (h1:du hd x=none→ng K E "NotOut" σ)
  (h2:∀ i,∀ t':BT k,∀ sp' σ',du hd x=some (2 ^ i)→i≤k→σ'.loc=σ.loc→σ.But S H σ'→Yd K σ' y k t' C dx S H sp' (dS hd x)→Q (.int (2 ^ i)) σ'):rP K E Q y [.int x] σ:=
 E3 hY h1 fun i t' sp' a b c=>h2 i t' sp' _ a b rfl nJ c
theorem E4 {x v:Int} {y k C dx S H sp hd} {t:BT k} (hY:Yd K σ y k t C dx S H sp hd) (h0:du hd x=none→ng K E "NotOut" σ) (h1:v<1→ng K E "NoWish" σ) (h2:(1≤v)→ng K E "NoRoom" σ)
  (h4:∀ i j,∀ t':BT k,∀ sp' σ',du hd x=some (2 ^ i)→1≤v→v≤2 ^ k→yD v j→j≤k→σ'.loc=σ.loc→σ.But S H σ'→Yd K σ' y k t' C dx S H sp' (iH hd x (2 ^ j))→Q (.int (2 ^ j)) σ'):BF K E Q y [.int x,.int v] σ:=
 ⟨x,v,rfl,k,t,C,dx,S,H,sp,hd,hY,h0,fun i ux ux q=>h1 q,fun i ux ux q=>h2 (by have:=dI k;lia),fun i j ux ux q1 ux ux ux ux ux=>h2 q1,
  fun i j hx hik q1 q2 hj hjk t' sp' ux r c=>h4 i j t' sp' _ hx q1 q2 hj hjk rfl nJ (hY.books r c (by rw [tf hY.rep.khd ((cH hY.rep.khd).mp hx)];exact hY.len))⟩
theorem ED:fe 1=0:=Nat.le_zero.mp ((jN 1 0).mpr (by decide))
theorem jF {n i:Nat} {a:AV} (h:((iR n).map fun i:Nat=>AV.int i)[i]?=some a):i<n∧a = .int i:=by
 rw [aR] at h
 obtain ⟨p,hp,rfl⟩:=bT.mp h
 obtain ⟨h1,h2⟩:=aF.mp hp
 rw [List.getElem_range] at h2
 rw [cC] at h1
 subst h2
 exact ⟨h1,rfl⟩
inductive BK (K:Frag) (Q:AV→AS→Prop) (l:List AV) (σ:AS):Prop
 |mk (y z:Addr) (c:Int) (k:Nat) (C dx S H:Addr) (M:Nat) (hl:l=[.ref y,.ref z,.int c,.int (2 ^ k)]) (hY:YH K σ σ y C dx S H k z M) (hM:M<2 ^ 15) (hq:∀ σ' z',σ'.loc=σ.loc→YH K σ σ' y C dx S H k z' (M+1)→Q (.ref z') σ'):BK K Q l σ
theorem ql {s:az} {x a b:Addr} {p q:List (Int×Int)} (r:R af w cx σ s) (hx:σ.lst x [.ref a,.ref b]) (ha:σ.lst a (p.map eC)) (hb:σ.lst b (q.map eC)):∃ as,Reads s.heap (.ref x) (.list [.list (p.map oM),.list (q.map oM)]) as:=by
 obtain ⟨vs,⟨o,h1,h2,m,h3⟩,v1,r1,rfl,p1,v2,r2,rfl,p2,e⟩:=r.lst hx
 obtain ⟨as,ra⟩:=iw r ha (fA p)
 obtain ⟨bs,rb⟩:=iw r hb (fA q)
 rw [show r2=[] from e] at h3
 have e1:v1 = .ref a:=p1
 have e2:v2 = .ref b:=p2
 subst e1 e2
 exact ⟨_,.list h1 h2 h3 (by simpa using ReadsAll.cons ra (ReadsAll.cons rb .nil))⟩
theorem wT {p q:List (Int×Int)}:(w0 [.list (p.map oM),.list (q.map oM)]).canLay0=true:=by
 have h1:=jU p
 have h2:=jU q
 simp [hW,bV,h1,h2]
theorem yj {p q:List (Int×Int)}:(w0 [.list (p.map oM),.list (q.map oM)]).depth≤3:=by
 have h1:=jp p
 have h2:=jp q
 simp only [mZ,fj]
 lia
theorem C0 {p q u v:List (Int×Int)}:jw (.list [.list (p.map oM),.list (q.map oM)]) (.list [.list (u.map oM),.list (v.map oM)])=decide (p=u∧q=v):=by
 have h1:=mT p u
 have h2:=mT q v
 simp only [jw,da,h1,h2]
 by_cases a:p=u <;> by_cases b:q=v <;> simp [a,b]
theorem dP {a b:Addr} {o:AO} (h:σ.hp a=none) (h':σ.hp b=some o):b≠a:=fun q=>by subst q;rw [h] at h';cases h'
theorem sI {ns:List Int} {a b i:Nat} {x:AV} (h:(((ns.map AV.int).drop a).take b)[i]?=some x):∃ c:Int,x = .int c:=by
 have:=aK (aJ (aE h))
 obtain ⟨c,_,rfl⟩:=bx.mp this
 exact ⟨c,rfl⟩
theorem lq {ns:List Int} {a b:Nat}:(((ns.map AV.int).drop a).take b).length≤ns.length:=by
 rw [bh,bp,aj];exact aI (Nat.min_le_right _ _) (eu _ _)
end
noncomputable def pX (h:Heap) (v:Value):Int×Int:=match v with
 | .ref a=>match h.get? a with
  |some o=>match o.data with
   | .seq xs _=>(fy (xs[0]?.getD .none),fy (xs[1]?.getD .none))
   |_=>(0,0)
  |none=>(0,0)
 |_=>(0,0)
noncomputable def mf (h:Heap) (v:Value) (p:Int×Int):Prop:=∃ a o n t u,v = .ref a∧h.get? a=some o∧o.cls = .type "tuple"∧o.data = .seq #[.int p.1 t,.int p.2 u] n
theorem mf.key {h:Heap} {v:Value} {p:Int×Int} (x:mf h v p):pX h v=p:=by
 obtain ⟨a,o,n,t,u,rfl,h1,h2,h3⟩:=x
 unfold pX
 simp only [h1,h3]
 rfl
theorem Ce {h:Heap} {v:Value} {p:Int×Int} (x:VR h (eC p) v):mf h v p:=by
 obtain ⟨a,vs,rfl,⟨o,n,h1,h2,h3⟩,v1,r1,rfl,⟨t,rfl⟩,v2,r2,rfl,⟨u,rfl⟩,e⟩:=x
 rw [show r2=[] from e] at h3
 exact ⟨a,o,n,t,u,rfl,h1,h2,h3⟩
theorem mf.vr {h:Heap} {v:Value} {p:Int×Int} (x:mf h v p):VR h (eC p) v:=by
 obtain ⟨a,o,n,t,u,rfl,h1,h2,h3⟩:=x
 exact ⟨a,_,rfl,⟨o,n,h1,h2,h3⟩,_,_,rfl,⟨t,rfl⟩,_,_,rfl,⟨u,rfl⟩,rfl⟩
theorem mf.mono {h h':Heap} {v:Value} {p:Int×Int} (k:∀ b o,h.get? b=some o→h'.get? b=some o) (x:mf h v p):mf h' v p:=by
 obtain ⟨a,o,n,t,u,e,h1,h2,h3⟩:=x
 exact ⟨a,o,n,t,u,e,k _ _ h1,h2,h3⟩
noncomputable def okP (h:Heap) (x:Keyed):Prop:=∃ p,mf h x.1 p
noncomputable def LP (h:Heap) (x y:Keyed):Bool:=nT (pX h x.1) (pX h y.1)
section
variable {A:dM} {E:Value→az→Prop} {s:az}
theorem yo {h:Heap} (k:∀ b o,h.get? b=some o→s.heap.get? b=some o):nN af w A E s (tuples' true) (okP h) (LP h) where
 lt:=fun st x y Q ⟨p,hx⟩ ⟨q,hy⟩ hk hQ=>by
  rw [lt'_eq]
  refine bF (wpS_get ?_)
  have hL:LP h x y=nT p q:=by unfold LP;rw [hx.key,hy.key]
  rw [hL] at hQ
  obtain ⟨a,o,n,t,u,e,h1,h2,h3⟩:=hx
  obtain ⟨b,o',n',t',u',e',h1',h2',h3'⟩:=hy
  rw [hk,e,e']
  refine bF (wpS_lift (oG (kat_lt (k _ _ h1) h3 (k _ _ h1') h3' ?_)))
  refine kat_cons (wpAny_eqBool_int ?_)
  refine kat_go (fun q1=>kat_yes (kat_cons (wpAny_eqBool_int (kat_go (fun q2=>kat_yes (kat_nil ⟨rfl,ec ?_⟩)) fun q2=>kat_no (kat_one _ _ (lt_int ?_)))))) (fun q1=>kat_no (oneLt_int ⟨rfl,ec ?_⟩))
  ·have q1:=eq_of_beq q1
   have q2:=eq_of_beq q2
   have:nT p q=false:=by unfold nT;simp only [decide_eq_false_iff_not];omega
   rw [this] at hQ
   exact hQ
  ·have q1:=eq_of_beq q1
   have:nT p q=decide (p.2<q.2):=by unfold nT;exact decide_eq_decide.mpr (by omega)
   rw [this] at hQ
   exact ⟨rfl,ec hQ⟩
  ·have q1:p.1≠q.1:=by simpa using q1
   have:nT p q=decide (p.1<q.1):=by unfold nT;exact decide_eq_decide.mpr (by omega)
   rw [this] at hQ
   exact hQ
 asym:=fun x y _ _ h=>by unfold LP nT at *;simp only [decide_eq_true_eq,decide_eq_false_iff_not] at *;omega
 neg:=fun x y z _ _ _ h1 h2=>by unfold LP nT at *;simp only [decide_eq_false_iff_not] at *;omega
theorem B3 {h:Heap}:∀ {vs:List Value},(∀ v∈vs,∃ p,mf h v p)→∃ fs,KatTups h vs fs∧fs.length=vs.length∧∀ v∈fs,∃ i t,v = .int i t:=by
 intro l9
 induction l9 with
 |nil =>
  rintro _
  exact ⟨[],.nil,rfl,fun ux q=>nomatch q⟩
 |cons v vs ih9 =>
  rintro hv
  obtain ⟨p,a,o,n,t,u,rfl,h1,h2,h3⟩:=hv v (.head _)
  obtain ⟨fs,q1,q2,q3⟩:=ih9 fun v h=>hv v (.tail _ h)
  refine ⟨.int p.1 t::fs,.cons h1 h2 h3 rfl q1,by rw [bj,bj,q2],fun v hv=>?_⟩
  rcases aQ.mp hv with q|q
  ·exact ⟨_,_,q⟩
  ·exact q3 v q
theorem uD {vs:List Value} {Q:pR→az→Prop} (hv:∀ v∈vs,∃ p,mf s.heap v p) (h2:2≤vs.length) (h:Q (tuples' true) s):wpAny (model af w) A (keyKind' vs.toArray) Q E s:=by
 obtain ⟨fs,t,hl,hi⟩:=B3 hv
 refine kat_kind (T:=.type "int") t (by lia) (fun v hv=>?_) rfl h
 obtain ⟨i,t,rfl⟩:=hi v hv
 exact .now
theorem o7 {l:Addr} {vs:List Value} {Q:Value→az→Prop} (hl:s.heap.IsList l vs.toArray) (hi:∀ v∈vs,∃ p,mf s.heap v p) (hz:vs.length≤aH)
  (h:∀ us:List Value,us.Perm vs→us.Pairwise (fun u v=>nT (pX s.heap v) (pX s.heap u)=false)→Q (.ref (s.heap.objs.size+1)) { s with heap:=sortedAll s.heap vs us.toArray }) :
  wpAny (model af w) A (call (.builtin "sorted") [.ref l]) Q E s:=by
 refine o8 (T:=fun ux ux=>True) (fun ux ux ux k=>yo k) hl ?_ (List.pairwise_of_forall fun ux ux=>trivial) ?_ hz fun ps hp hs=>?_
 ·intro x hx
  rw [pQ] at hx
  exact hi _ (mem_zip_self hx).2
 ·intro h2 A' h' k Q' E' q
  exact uD (s:={ s with heap:=h' }) (fun v hv=>let ⟨p,hp⟩:=hi v hv;⟨p,hp.mono k⟩) h2 q
 ·have:=h (ps.map (·.2)) ?_ ?_
  ·simpa using this
  ·have:=hp.map (·.2)
   rw [pQ,oR] at this
   exact this
  ·have same:∀ p∈ps,p.1=p.2:=fun p hpp=>by
    have:=hp.mem_iff.mp hpp
    rw [pQ] at this
    exact (mem_zip_self this).1
   rw [cq]
   refine hs.imp_of_mem fun {a b} ha hb hab=>?_
   have:=hab.1
   unfold LP at this
   rw [same b hb,same a ha] at this
   exact this
end
section
variable {K:Frag} {cx:CX} {sc:Scope} {n:Nat} {σ:AS} {Q:AV→AS→Prop} {QB:Bool→AS→Prop} {QF:AF→AS→Prop} {E:Value→AS→Prop} {pos:Pos}
theorem BU {h:Heap}:∀ {ps:List (Int×Int)} {vs:List Value},iM h (ps.map eC) vs→vs.map (pX h)=ps∧∀ v∈vs,∃ p,mf h v p:=by
 intro l9
 induction l9 with
 |nil =>
  rintro _ e
  rw [show _=[] from e];exact ⟨rfl,fun ux q=>nomatch q⟩
 |cons p ps ih9 =>
  rintro _ ⟨v,r,e,x,q⟩
  have x:=Ce x
  subst e
  obtain ⟨h1,h2⟩:=ih9 q
  refine ⟨by rw [aM,h1,x.key],fun v hv=>?_⟩
  rcases aQ.mp hv with q|q
  ·exact ⟨p,q▸x⟩
  ·exact h2 v q
theorem Cd {h:Heap}:∀ {vs:List Value},(∀ v∈vs,∃ p,mf h v p)→iM h ((vs.map (pX h)).map eC) vs:=by
 intro l9
 induction l9 with
 |nil =>
  rintro _
  exact rfl
 |cons v vs ih9 =>
  rintro hv
  obtain ⟨p,x⟩:=hv v (.head _)
  exact ⟨_,vs,rfl,by rw [x.key];exact x.vr,ih9 fun v h=>hv v (.tail _ h)⟩
theorem l7 {x:Addr} {ps:List (Int×Int)} (hx:σ.lst x (ps.map eC)) (hz:ps.length≤aH) (h:∀ y (ms:List (Int×Int)),σ.hp y=none→ms.Perm ps→ms.Pairwise (fun p q=>nT q p=false)→Q (.ref y) (σ.put y (.list (ms.map eC)))):gd af w cx (.builtin "sorted") [.ref x] σ Q E:=fun s vs r hv=>by
 obtain ⟨va,rfl,p⟩:=ke hv
 rw [show va = .ref x from p]
 obtain ⟨us,hl,q⟩:=r.lst hx
 obtain ⟨hk,hi⟩:=BU q
 have hlen:us.length≤aH:=by rw [q.length,aj];exact hz
 refine o7 hl hi hlen fun ws hp hs=>?_
 have kp:∀ b o,s.heap.get? b=some o→(sortedAll s.heap us ws.toArray).get? b=some o:=fun b o e=>sortedAll_old e
 obtain ⟨e,he⟩:=sortedAll_at s.heap us ws.toArray
 have n1:s.heap.get? (s.heap.objs.size+1)=none:=by
  cases q:s.heap.get? (s.heap.objs.size+1) with
  |none=>rfl
  |some o=>exact absurd (bq q) (by show ¬ (s.heap.objs.size+1<s.heap.objs.size);lia)
 have wi:∀ v∈ws,∃ p,mf s.heap v p:=fun v hv=>hi v (hp.mem_iff.mp hv)
 refine ⟨.ref _,_,r.new (tk:=s.toks) (ao:=.list ((ws.map (pX s.heap)).map eC)) n1 kp ⟨ws,⟨e,by simpa using he⟩,iM.mono (VM.of_keeps kp) _ (Cd wi)⟩,di,VM.of_keeps kp,h _ (ws.map (pX s.heap)) ?_ ?_ ?_⟩
 ·cases q:σ.hp (s.heap.objs.size+1) with
  |none=>rfl
  |some ao=>exact absurd q ((Off.new r n1).hp ao)
 ·rw [← hk];exact hp.map _
 ·rw [cq];exact hs
end
section
variable {K:Frag} {cx:CX} {sc:Scope} {n:Nat} {σ σ':AS} {Q:AV→AS→Prop} {QB:Bool→AS→Prop} {QF:AF→AS→Prop} {E:Value→AS→Prop} {pos:Pos} {P:AS→Prop}
noncomputable def Kend (P:AS→Prop) (QF:AF→AS→Prop):AF→AS→Prop
 | .next,σ=>P σ
 |f,σ=>QF f σ
noncomputable def kZ (af:aV) (w:World) (cx:CX) (P:AS→Prop) (QF:AF→AS→Prop) (E:Value→AS→Prop):List Stmt→AF→AS→Prop
 |[],.next,σ=>P σ
 |s::r,.next,σ=>jv af w cx s σ (kZ af w cx P QF E r) E
 |_,f,σ=>QF f σ
theorem eE (h:P σ):kZ af w cx P QF E [] .next σ:=by unfold kZ;exact h
theorem fw {s:Stmt} {r:List Stmt} (h:jv af w cx s σ (kZ af w cx P QF E r) E):kZ af w cx P QF E (s::r) .next σ:=by unfold kZ;exact h
theorem vV {r:List Stmt} {v:AV} (h:QF (.ret v) σ):kZ af w cx P QF E r (.ret v) σ:=by cases r <;> (unfold kZ;exact h)
theorem Ct {rest:List Stmt} (h2:∀ σ',P σ'→cf af w cx rest σ' QF E):∀ {l:List Stmt} {f:AF} {σ:AS},kZ af w cx P QF E l f σ→Knx af w cx (l++rest) QF E f σ
 |[],.next,σ,h=>h2 σ (by unfold kZ at h;exact h)
 |s::r,.next,σ,h=>a' (av (Wp.imp (by unfold kZ at h;exact h) (fun f σ₁ q=>Ct h2 q) fun ux ux e=>e))
 |l,.ret v,σ,h=>by cases l <;> (unfold kZ at h;exact h)
 |l,.brk,σ,h=>by cases l <;> (unfold kZ at h;exact h)
 |l,.cont,σ,h=>by cases l <;> (unfold kZ at h;exact h)
theorem pW (P:AS→Prop) {s1:Stmt} {rest:List Stmt} (h2:∀ σ',P σ'→cf af w cx rest σ' QF E) (h:jv af w cx s1 σ (kZ af w cx P QF E []) E):cf af w cx (s1::rest) σ QF E:=
 a' (Ct (l:=[s1]) h2 (fw h))
theorem yX (P:AS→Prop) {s1 s2:Stmt} {rest:List Stmt} (h2:∀ σ',P σ'→cf af w cx rest σ' QF E) (h:jv af w cx s1 σ (kZ af w cx P QF E [s2]) E):cf af w cx (s1::s2::rest) σ QF E:=
 a' (Ct (l:=[s1,s2]) h2 (fw h))
theorem Ea (P:AS→Prop) {s1 s2 s3:Stmt} {rest:List Stmt} (h2:∀ σ',P σ'→cf af w cx rest σ' QF E) (h:jv af w cx s1 σ (kZ af w cx P QF E [s2,s3]) E):cf af w cx (s1::s2::s3::rest) σ QF E:=
 a' (Ct (l:=[s1,s2,s3]) h2 (fw h))
end
section
variable {K:Frag} {cx:CX} {sc:Scope} {n:Nat} {σ σ':AS} {Q:AV→AS→Prop} {QB:Bool→AS→Prop} {QF:AF→AS→Prop} {E:Value→AS→Prop} {pos:Pos}
inductive LG (K:Frag) (k:Nat) (C y dx S H sx:Addr) (ns:List Int) (M:Nat) (σ:AS):Prop
 |mk (z:Addr) (t:BT k) (sp hd hs:List (Int×Int)) (hY:Yd K σ y k t C dx S H sp hd) (hz:σ.hp z=some (.list (hs.map eC))) (hp:hs.Perm hd) (hl:hd.length≤M) (lc:σ.loc (aa "_law_cells")=some (.int (2 ^ k))) (ly:σ.loc (aa "_law_yard")=some (.ref y)) (lh:σ.loc (aa "_law_held")=some (.ref z)) (ls:σ.loc (aa "_law_script")=some (.ref sx)) (fs:σ.hp sx=some (.ro (ns.map AV.int))):LG K k C y dx S H sx ns M σ
theorem LG.sub {k C y dx S H sx ns M} (h:LG K k C y dx S H sx ns M σ) (s:σ.Sub σ') (l:σ'.loc=σ.loc):LG K k C y dx S H sx ns M σ':=
 let ⟨z,t,sp,hd,hs,hY,hz,hp,hl,lc,ly,lh,ls,fs⟩:=h
 ⟨z,t,sp,hd,hs,hY.sub s,s _ _ hz,hp,hl,by rw [l];exact lc,by rw [l];exact ly,by rw [l];exact lh,by rw [l];exact ls,s _ _ fs⟩
theorem jJ {x:Addr} {d:List AV} {args:List Expr} (hx:σ.hp x=some (.list d)) (h:fN af w cx pos args σ (fun l σ₂=>gd af w cx (.builtin "list.clear") (.ref x::l) σ₂ Q E) E):pO af w cx pos args (aa "clear") Q E (.ref x) σ:=
 ⟨x,_,"list","list.clear",rfl,hx,rfl,PySem.F.plainAttrs_list,PySem.F.slot_list_clear,rfl,h⟩
theorem mW {x:Addr} {l:List AV} (hx:σ.hp x=some (.list l)) (hz:l.length≤aH) (h:Q .none (σ.put x (.list []))):gd af w cx (.builtin "list.clear") [.ref x] σ Q E:=fun s vs r hv=>by
 obtain ⟨v,rfl,p⟩:=ke hv
 rw [show v = .ref x from p]
 obtain ⟨⟨ws,⟨m,pl⟩,qs⟩,_⟩:=r.ob x _ hx
 refine call_meets PySem.F.slot_list_clear ⟨_,pl,rfl⟩ PySem.F.entry_list_clear (PySem.F.args_list_clear_1 _) (PySem.AutoSeq1.list_clear_list_0 x ws.toArray m (by rw [cm,qs.length];exact hz)) ⟨pl,?_⟩
 obtain ⟨r',m'⟩:=r.upd (h':=s.heap.update x (a9 fun ux=>#[])) (tk:=s.toks) (ao':=.list []) hx rfl (fun b o hb e=>(qH _ _ _ _ hb).trans e) fun vm=>⟨[],⟨_,jy pl (fun ux=>#[])⟩,rfl⟩
 exact ⟨.none,_,r',jC,m',h⟩
theorem qT {value slice:Expr} {a b:AV} (h:Q a σ) (hs:∀ o i,eA slice false o i=mF [o,i] (lC o i)):de af w cx (cO value slice) (.tup [a,b]) (.int 0) σ Q E:=
 mA (by decide) (by decide) (k:=0) rfl rfl h hs
theorem oH {value slice:Expr} {a b:AV} (h:Q b σ) (hs:∀ o i,eA slice false o i=mF [o,i] (lC o i)):de af w cx (cO value slice) (.tup [a,b]) (.int 1) σ Q E:=
 mA (by decide) (by decide) (k:=1) rfl rfl h hs
noncomputable def Kc4 (af:aV) (w:World) (cx:CX) (op2:CmpOp) (b:AV) (QB:Bool→AS→Prop) (E:Value→AS→Prop) (d:AV) (σ:AS):Prop:=de af w cx (bL op2) b d σ (DK QB) E
noncomputable def Kc3 (af:aV) (w:World) (cx:CX) (op2:CmpOp) (r2:Expr) (b:AV) (QB:Bool→AS→Prop) (E:Value→AS→Prop) (c:Bool) (σ:AS):Prop:=if c then bZ af w cx r2 σ (Kc4 af w cx op2 b QB E) E else QB false σ
noncomputable def Kc2 (af:aV) (w:World) (cx:CX) (op1 op2:CmpOp) (r2:Expr) (QB:Bool→AS→Prop) (E:Value→AS→Prop) (a b:AV) (σ:AS):Prop:=de af w cx (bL op1) a b σ (DK (Kc3 af w cx op2 r2 b QB E)) E
noncomputable def Kc1 (af:aV) (w:World) (cx:CX) (op1 op2:CmpOp) (r1 r2:Expr) (QB:Bool→AS→Prop) (E:Value→AS→Prop) (a:AV) (σ:AS):Prop:=bZ af w cx r1 σ (Kc2 af w cx op1 op2 r2 QB E a) E
theorem kc1 {op1 op2:CmpOp} {r1 r2:Expr} {a:AV} (h:bZ af w cx r1 σ (Kc2 af w cx op1 op2 r2 QB E a) E):Kc1 af w cx op1 op2 r1 r2 QB E a σ:=h
theorem kc2 {op1 op2:CmpOp} {r2:Expr} {a b:AV} (h:de af w cx (bL op1) a b σ (DK (Kc3 af w cx op2 r2 b QB E)) E):Kc2 af w cx op1 op2 r2 QB E a b σ:=h
theorem kc3 {op2:CmpOp} {r2:Expr} {b:AV} {c:Bool} (h:if c=true then bZ af w cx r2 σ (Kc4 af w cx op2 b QB E) E else QB false σ):Kc3 af w cx op2 r2 b QB E c σ:=h
theorem kc4 {op2:CmpOp} {b d:AV} (h:de af w cx (bL op2) b d σ (DK QB) E):Kc4 af w cx op2 b QB E d σ:=h
theorem Cv {l r1 r2:Expr} {op1 op2:CmpOp} (hm:lastMarks [op1,op2] [r1,r2]=false) (h:bZ af w cx l σ (Kc1 af w cx op1 op2 r1 r2 QB E) E):og af w cx (.Compare l [op1,op2] [r1,r2] pos) σ QB E:=fun s r=>by
 refine isTrue_chain (ak (h s r) (fun va s₁ zz=>zz.use fun a σ₁ r₁ v₁ m₁ q₁=>test_link (ak (q₁ s₁ r₁) (fun vb s₂ zz=>zz.use fun b σ₂ r₂ v₂ m₂ q₂=>ak (q₂ s₂ va vb r₂ (v₁.mono m₂) v₂) (fun vc s₃ zz=>zz.use fun c σ₃ r₃ v₃ m₃ zz=>?_) fun ux ux e=>e.mono (m₁.trans m₂)) fun ux ux e=>e.mono m₁)) fun ux ux e=>e) hm
 obtain ⟨d,hc,q₃⟩:=zz
 subst hc
 rw [show vc = .bool d from v₃]
 refine eY ?_
 cases d with
 |false=>exact ⟨false,σ₃,r₃,rfl,(m₁.trans m₂).trans m₃,q₃⟩
 |true =>
  refine test_last (ak (q₃ s₃ r₃) (fun vd s₄ zz=>zz.use fun d σ₄ r₄ v₄ m₄ q₄=>ak (q₄ s₄ vb vd r₄ (v₂.mono (m₃.trans m₄)) v₄) (fun v s₅ zz=>zz.use fun c σ₅ r₅ v₅ m₅ zz=>?_) fun ux ux e=>e.mono (((m₁.trans m₂).trans m₃).trans m₄)) fun ux ux e=>e.mono ((m₁.trans m₂).trans m₃))
  obtain ⟨e,he,q₅⟩:=zz
  subst he
  rw [show v = .bool e from v₅]
  exact eY ⟨e,σ₅,r₅,rfl,(((m₁.trans m₂).trans m₃).trans m₄).trans m₅,q₅⟩
noncomputable def ownA:Option Int→AV
 |some x=> .int x
 |none=> .none
inductive w7 (K:Frag) (Q:AV→AS→Prop) (y:Addr) (l:List AV) (σ:AS):Prop
 |mk (c:Int) (hl:l=[.int c]) (k:Nat) (t:BT k) (C dx S H:Addr) (sp hd:List (Int×Int)) (hY:Yd K σ y k t C dx S H sp hd) (hq:Q (ownA (q7 hd c)) σ):w7 K Q y l σ
inductive tY (Q:AV→AS→Prop) (l:List AV) (σ:AS):Prop
 |mk (z:Addr) (c:Int) (hs:List (Int×Int)) (hl:l=[.ref z,.int c]) (hz:σ.hp z=some (.list (hs.map eC))) (ho:tG hs) (hq:Q (ownA (q7 hs c)) σ):tY Q l σ
theorem hV.once {k} {t:BT k} {sp hd:List (Int×Int)} (R:hV t sp hd):tG hd:=(sq t).perm R.hd
theorem mE {l:List (Int×Int)} {c:Int} {i:Nat} {p:Int×Int} (hp:l[i]?=some p) (h:∀ q∈l.take i,jj c q=false) (h':jj c p=false):∀ q∈l.take (i+1),jj c q=false:=fun q hq=>by
 rw [List.take_add_one,hp] at hq
 rcases ay.mp hq with w|w
 ·exact h q w
 ·have:q=p:=by simpa using w
  rw [this];exact h'
theorem int_at {l:List (Int×Int)} {i:Nat} {a:AV} (h:((l.map (·.1)).map AV.int)[i]?=some a):∃ p,l[i]?=some p∧a = .int p.1:=by
 rw [bn,aR] at h
 obtain ⟨p,hp,rfl⟩:=bT.mp h
 exact ⟨p,hp,rfl⟩
theorem gN (ok:Ok af K cx sc n) {x y:Str} (c1:(yz.str x).canLay0=true) (c2:(yz.str y).canLay0=true) (h:Q (.bool (!(x == y))) σ):de af w cx (bL .NotEq) (.str x) (.str y) σ Q E:=by
 intro s va vb r p q
 obtain ⟨t,rfl⟩:=p
 obtain ⟨u,rfl⟩:=q
 exact E8 (.str x t) (.str y u) c1 c2 (by have:=ok.units;show cx.A.units+min 0 0<_;lia) (dT r dk h)
theorem jM {x:Str} {P R:Prop} (h:P):if (x == x)=true then P else R:=by rw [if_pos (beq_self_eq_true x)];exact h
theorem pt {x y:Str} {P R:Prop} (e:(x == y)=false) (h:R):if (x == y)=true then P else R:=by rw [if_neg (by rw [e];decide)];exact h
theorem x_ifb {test:Expr} {body orelse:List Stmt} (Pb Po:AS→Prop) (hb:∀ σ',Pb σ'→cf af w cx body σ' QF E) (ho:∀ σ',Po σ'→cf af w cx orelse σ' QF E) (h:og af w cx test σ (fun c σ'=>if c then Pb σ' else Po σ') E):jv af w cx (.If test body orelse pos) σ QF E:=
 eF (h.imp (fun c σ' q=>by
  cases c with
  |true=>exact hb σ' q
  |false=>exact ho σ' q) fun ux ux e=>e)
end
noncomputable def D9 (m:Nat) (af:aV) (w:World) (h:Heap) (a:Addr) (o:Obj):Prop:=o.ExactSet∧∃ (es:Array (Int×Value)) (ep:Nat) (t:SetTable),o.data = .set es ep t∧t.fits es.size=true∧es.size=m∧m<4096
theorem kx {h:Heap}:∀ {ns:List Int} {vs:List Value},iM h (ns.map AV.int) vs→IntsAre vs ns:=by
 intro l9
 induction l9 with
 |nil =>
  rintro _ e
  rw [show _=[] from e];exact .nil
 |cons i ns ih9 =>
  rintro _ ⟨v,r,e,⟨t,p⟩,q⟩
  subst e p;exact .cons i t (ih9 q)
theorem tg {l:List Int} {x:Int} (h:l.Nodup):(step_dedup l x).Nodup:=by
 unfold step_dedup
 split
 ·exact h
 ·rename_i q
  refine ij.mpr ⟨h,by simp,fun a ha b hb e=>?_⟩
  have hb:b=x:=by simpa using hb
  subst e hb
  exact q (List.any_eq_true.mpr ⟨a,ha,by simp⟩)
theorem qp {f:Nat→Int}:∀ {i:Nat},(firstMet f i).Nodup
 |0=>by rw [firstMet_zero];exact Bs
 |i+1=>by rw [firstMet_succ];exact tg qp
theorem wX {l:List Int} {x:Int}:l.any (· == x)=true↔x∈l:=by simp
theorem za {ns:List Int} {i:Nat} (h:i=ns.length):gw ns (firstMet (fun i=>ns.getD i 0) i).length:=by
 subst h
 refine ⟨_,qp,fun x=>?_,rfl⟩
 rw [← wX,firstMet_any,wX]
 have:(iR ns.length).map (fun i=>ns.getD i 0)=ns:=by
  apply List.ext_getElem
  ·simp
  ·intro i h1 h2
   simp at h1
   simp [h1]
 rw [this]
section
variable {K:Frag} {cx:CX} {sc:Scope} {n:Nat} {σ σ':AS} {Q:AV→AS→Prop} {QB:Bool→AS→Prop} {QF:AF→AS→Prop} {E:Value→AS→Prop} {pos:Pos}
theorem AX (hh:cx.A.handled=none) {x:Addr} {ns:List Int} (hx:σ.lst x (ns.map AV.int)) (h:Q (.int ns.sum) σ):gd af w cx (.builtin "sum") [.ref x] σ Q E:=fun s vs r hv=>by
 obtain ⟨v,rfl,p⟩:=ke hv
 rw [show v = .ref x from p]
 obtain ⟨us,hl,q⟩:=r.lst hx
 have hi:=kx q
 obtain ⟨xs,hxs⟩:=hi.allInts.items
 have hl':s.heap.IsList x (dZ xs):=hxs▸hl
 refine sum_intListG hh hl' fun h' tk t' hk=>?_
 have e1:ns=xs.toList.map (·.1):=by
  rw [← nums_intItems,← hxs]
  exact (show numsOf us.toArray.toList=ns from hi.numsOf).symm
 have e2:preSum (numAt xs) xs.size=ns.sum:=by
  rw [preSum_eq,cB (by simp),e1]
 rw [e2]
 exact ⟨.int ns.sum,σ,r.grow (tk:=tk) hk,cQ,VM.of_keeps hk,h⟩
theorem EQ (hh:cx.A.handled=none) {x:Addr} {ns:List Int} (hx:σ.lst x (ns.map AV.int)) (hz:ns.length+1<4096) (h:∀ y m,σ.hp y=none→gw ns m→Q (.ref y) (σ.put y (.any (D9 m)))):gd af w cx (.type "set") [.ref x] σ Q E:=fun s vs r hv=>by
 obtain ⟨v,rfl,p⟩:=ke hv
 rw [show v = .ref x from p]
 obtain ⟨us,hl,q⟩:=r.lst hx
 have hi:=kx q
 have hlen:us.length=ns.length:=by rw [q.length,aj]
 refine PySem.call_set_list (items:=us.toArray) (ns:=ns) hh hl (by simpa using hi) (by rw [cm,hlen];exact hz) fun h' tk hS hk=>?_
 have kp:∀ b o,s.heap.get? b=some o→h'.get? b=some o:=fun b o e=>hk b o (bq e) e
 obtain ⟨o,es,ep,t,ho,h1,h2,_,_,h3,h4,h5⟩:=hS
 refine ⟨.ref _,_,r.new (tk:=tk) (ao:=.any (D9 _)) (cE _) kp ⟨o,ho,by rw [h1.1];simp,fun ux ux=>⟨h1,es,ep,t,h2,h4,h5,h5▸h3⟩⟩,di,VM.of_keeps kp,h _ _ (gq r) (za (by rw [cm,hlen]))⟩
theorem u1 {x:Addr} {m:Nat} (hx:σ.hp x=some (.any (D9 m))) (h:Q (.int m) σ):gd af w cx (.builtin "len") [.ref x] σ Q E:=fun s vs r hv=>by
 obtain ⟨v,rfl,p⟩:=ke hv
 rw [show v = .ref x from p]
 obtain ⟨⟨o,ho,_,hT⟩,_⟩:=r.ob x _ hx
 obtain ⟨h1,es,ep,t,h2,h3,h4,h5⟩:=hT _ (VM.refl _)
 refine call_len_set ho h1 h2 h3 (by rw [h4];lia) ?_
 rw [h4]
 exact j8 r cQ h
noncomputable def E0 (s:Int):AV→Bool
 | .tup [.int a,.int b]=>decide (s≤b)
 |_=>true
noncomputable def bigF (s:Int):AV→AV
 | .tup [.int a,.int b]=> .int (b / s)
 |v=>v
noncomputable def D6 (s:Int):AV→Bool
 | .tup [.int a,.int b]=>decide (b<s)
 |_=>true
noncomputable def smlF (s:Int):AV→AV
 | .tup [.int a,.int b]=> .int (a / s)
 |v=>v
theorem s9 {s:Int}:∀ {hs:List (Int×Int)},((hs.map eC).filter (E0 s)).map (bigF s)=((hs.filter fun p=>decide (s≤p.2)).map fun p=>p.2 / s).map AV.int
 |[]=>rfl
 |p::hs=>by
  have ih:=@s9 s hs
  have e:E0 s (eC p)=decide (s≤p.2):=rfl
  rw [aM,cj,cj,e]
  cases decide (s≤p.2) with
  |true=>rw [if_pos rfl,if_pos rfl,aM,aM,aM,ih];rfl
  |false=>rw [if_neg (by decide),if_neg (by decide),ih]
theorem s8 {s:Int}:∀ {hs:List (Int×Int)},((hs.map eC).filter (D6 s)).map (smlF s)=((hs.filter fun p=>decide (p.2<s)).map fun p=>p.1 / s).map AV.int
 |[]=>rfl
 |p::hs=>by
  have ih:=@s8 s hs
  have e:D6 s (eC p)=decide (p.2<s):=rfl
  rw [aM,cj,cj,e]
  cases decide (p.2<s) with
  |true=>rw [if_pos rfl,if_pos rfl,aM,aM,aM,ih];rfl
  |false=>rw [if_neg (by decide),if_neg (by decide),ih]
inductive tX (Q:AV→AS→Prop) (l:List AV) (σ:AS):Prop
 |mk (z:Addr) (j:Nat) (hs:List (Int×Int)) (hl:l=[.ref z,.int (2 ^ j)]) (hz:σ.hp z=some (.list (hs.map eC))) (hlen:hs.length≤1000) (hq:∀ m,gw (dG j hs) m→Q (.int (fi j hs+m)) σ):tX Q l σ
theorem rp (ok:Ok af K cx sc n) {x y:Addr} {ns:List Int} (hx:σ.lst x (ns.map AV.int)) (hy:σ.lst y []) (h:Q (.bool (!decide (ns=[]))) σ):de af w cx (bL .NotEq) (.ref x) (.ref y) σ Q E:=by
 have hd:∀ ns:List Int,dA (ns.map AV.int)=some (ns.map oB):=fun ns=>by
  induction ns with
  |nil=>simp [dA]
  |cons a l ih=>rw [aM,aM];unfold dA;rw [ih];simp [dataOf]
 have hc:∀ ns:List Int,bV (ns.map oB)=true:=fun ns=>by
  induction ns with
  |nil=>simp [bV]
  |cons a l ih=>rw [aM];simp [bV,hW,ih]
 refine jS ok hx hy (hd ns) (es:=[]) (by simp [dA]) (hc ns) (by simp [bV]) (by simp only [mZ,fj];lia) ?_
 have e:da (ns.map oB) []=decide (ns=[]):=by cases ns <;> simp [da]
 rw [e]
 exact h
noncomputable def BA {k:Nat} (t:BT k) (f:Nat) (x:Int) (i:Nat):Prop:=(x,(2:Int) ^ i)∈cI false 0 t∧f≤i∧∀ p∈cI false 0 t,2 ^ f≤p.2→(2:Int) ^ i≤p.2∧(p.2=2 ^ i→x≤p.1)
theorem R.iso {af:aV} {w:World} {s:az} {a:Addr} {o:Obj} (r:R af w cx σ s) (h:σ.hp a=some (.any (iV o))):s.heap.get? a=some o:=by
 obtain ⟨⟨x,hx,_,hT⟩,_⟩:=r.ob a _ h
 rw [show x=o from hT s.heap (VM.refl _)] at hx
 exact hx
theorem nx {af:aV} {w:World} {h:Heap} {a:Addr} {o:Obj} (e:h.get? a=some o) (hn:∀ xs n,o.cls = .type "tuple"→o.data ≠ .seq xs n):OR af w h a (.any (iV o)):=⟨o,e,hn,fun ux ux=>rfl⟩
theorem R.track {s:az} {a:Addr} {ao:AO} (r:R af w cx σ s) (f:Off cx σ a) (ho:OR af w s.heap a ao):R af w cx (σ.put a ao) s:=
 r.add ho f.base f.P f.own fun en he hf=>f.fr (bP.mpr ⟨en,he,hf⟩)
theorem R.inA {s:az} {A':dM} (r:R af w cx σ s):R af w { cx with A:=A' } σ s:=⟨r.stay,r.ff,r.ns,r.loc,r.pr,r.pn,r.ob,r.own,r.cel,r.oth,r.gens,r.drawn,r.os⟩
theorem R.outA {s:az} {A':dM} (r:R af w { cx with A:=A' } σ s):R af w cx σ s:=⟨r.stay,r.ff,r.ns,r.loc,r.pr,r.pn,r.ob,r.own,r.cel,r.oth,r.gens,r.drawn,r.os⟩
noncomputable def CX.calleeL (cx:CX) (env':Env) (h:Heap):CX where
 A:=cx.A.deeper env'
 env:=env'
 fenv:=env'
 outer:=cx.fenv::cx.outer
 base:=cx.base
 P:=fun b o=>cx.P b o∨(cx.own b∧b∉cx.frames∧(∀ y,env'.cells.lookup y≠some b)∧h.get? b=some o)
 N:=fun b m=>cx.N b m∨(b=cx.env.locals∧b∈cx.frames∧h.Ns b m)
 gens:=cx.gens
 drawn:=cx.drawn
 os:=cx.os
theorem R.enterL {s:az} {h₁:Heap} {tk:Nat} {scope:Scope} {cl:List (Str×Addr)} {qual:Str} {f:Addr} {cdv:Value} {x:Str} {a:AV} {v:Value} {m:Str→Option Value} (r:R af w cx σ s) (keep:∀ b o,s.heap.get? b=some o→h₁.get? b=some o)
  (hns:h₁.Ns s.heap.objs.size m) (hmx:m x=some v) (hv:VR s.heap a v) (hcl:∀ y c,cl.lookup y=some c→cx.env.cells.lookup y=some c) (hk0:scope.kind = .function) (hx:scope.names.lookup x=some .local)
  (hk:∀ y,(cl.lookup y).isSome=true→scope.names.lookup y=some .free) (hck:∀ y c,cx.env.cells.lookup y=some c→cx.env.kindOf y=some .cell∨cx.env.kindOf y=some .free) :
  R af w (cx.calleeL (envX qual scope s.heap.objs.size f cdv cl) s.heap) (σ.compLoc cl x a) { s with heap:=h₁,toks:=tk }:=by
 have fr0:(envX qual scope s.heap.objs.size f cdv cl).frame=some s.heap.objs.size:=rfl
 have old:∀ (b:Nat) o,s.heap.get? b=some o→b<s.heap.objs.size:=fun b o e=>bq e
 have hnb:∀ b:Nat,s.heap.objs.size≤b→cx.base.get? b=none:=fun b hb=>by
  cases q:cx.base.get? b with
  |none=>rfl
  |some o=>have:=old _ _ (r.stay b o q);lia
 have frOld:∀ b:Nat,b∈cx.frames→b<s.heap.objs.size:=fun b hb=>by obtain ⟨_,o,h1,_⟩:=r.ff.mem hb;exact old _ _ h1
 have own':∀ b,(cx.calleeL (envX qual scope s.heap.objs.size f cdv cl) s.heap).own b→b=s.heap.objs.size∨∃ y,cl.lookup y=some b:=fun b hb=>hb
 have vm:VM s.heap h₁:=VM.of_keeps keep
 have ffk:h₁.FunFrames cx.base (cx.fenv::cx.outer):=r.ff.of_keeps fun b o e ux=>⟨o,keep b o e,rfl⟩
 have clOld:∀ y (c:Nat),cl.lookup y=some c→c<s.heap.objs.size:=fun y c e=>by
  obtain ⟨_,⟨o,_,h1,_⟩,_⟩:=r.cel y c (hcl y c e)
  exact old _ _ h1
 refine ⟨fun b o e=>keep b o (r.stay b o e),?_,⟨_,hns⟩,fun y u e=>?_,fun b o e=>?_,fun b m' e=>?_,fun b bo e=>?_,fun b e=>?_,fun y c e=>?_,fun e he hf=>?_,r.gens,r.drawn,r.os⟩
 ·obtain ⟨o,h1,h2⟩:=dB hns
  refine ⟨?_,⟨s.heap.objs.size,o,fr0,hnb _ (aU _),h1,h2⟩,ffk⟩
  show scope.kind ≠ .module
  rw [hk0];decide
 ·unfold AS.compLoc at e
  dsimp only at e
  split at e
  ·rename_i q;subst q;cases e
   refine ⟨v,?_,hv.mono vm⟩
   unfold ei
   rw [show (cx.calleeL (envX qual scope s.heap.objs.size f cdv cl) s.heap).env.kindOf y=some .local from hx]
   exact ⟨m,hns,hmx⟩
  ·split at e
   ·rename_i q1 q2
    obtain ⟨c,hc⟩:=bU.mp q2
    obtain ⟨u',l,hu⟩:=r.loc y u e
    refine ⟨u',?_,hu.mono vm⟩
    have hcc:=hcl y c hc
    have body:∃ c o,cx.env.cells.lookup y=some c∧s.heap.get? c=some o∧o.data = .cell (some u'):=by
     unfold ei at l
     rcases hck y c hcc with z|z
     ·rw [z] at l;exact l
     ·rw [z] at l;exact l
    obtain ⟨c',o,h1,h2,h3⟩:=body
    rw [hcc] at h1;cases h1
    unfold ei
    rw [show (cx.calleeL (envX qual scope s.heap.objs.size f cdv cl) s.heap).env.kindOf y=some .free from hk y q2]
    exact ⟨c,o,hc,keep _ _ h2,h3⟩
   ·cases e
 ·have:s.heap.get? b=some o∧b∉cx.frames:=e.elim (fun e=>r.pr b o e) fun ⟨_,q,_,q'⟩=>⟨q',q⟩
  refine ⟨keep b o this.1,fun hm=>?_⟩
  rcases aQ.mp (show b∈s.heap.objs.size::cx.frames from hm) with q|q
  ·have lt:=old _ _ this.1;rw [q] at lt;exact absurd lt (ba _)
  ·exact this.2 q
 ·have:s.heap.Ns b m'∧b∈cx.frames:=e.elim (fun e=>r.pn b m' e) fun ⟨_,q,q'⟩=>⟨q',q⟩
  exact ⟨this.1.keeps keep,Bt _ this.2⟩
 ·obtain ⟨p,q1,q2,q3,q4⟩:=r.ob b bo e
  obtain ⟨o,ho,_⟩:=p.there
  have lt:=old _ _ ho
  refine ⟨p.at vm fun o=>keep b o,q1,fun o e'=>e'.elim (q2 o) fun ⟨q,_⟩=>q3 q,fun q=>?_,fun e he hf=>?_⟩
  ·rcases own' b q with z|⟨y,z⟩
   ·rw [z] at lt;exact absurd lt (ba _)
   ·exact q3 (.inr ⟨y,hcl y b z⟩)
  ·rcases aQ.mp he with q|q
   ·subst q;injection (fr0.symm.trans hf) with hf;rw [← hf] at lt;exact absurd lt (ba _)
   ·exact q4 e q hf
 ·rcases own' b e with z|⟨y,z⟩
  ·subst z
   refine ⟨hnb _ (aU _),fun o e'=>?_,fun m' e'=>?_⟩
   ·have:s.heap.get? s.heap.objs.size=some o:=e'.elim (fun e=>(r.pr _ o e).1) fun ⟨_,_,_,q'⟩=>q'
    exact absurd (old _ _ this) (ba _)
   ·have:s.heap.Ns s.heap.objs.size m':=e'.elim (fun e=>(r.pn _ m' e).1) fun ⟨_,_,q'⟩=>q'
    obtain ⟨o,h1,_⟩:=dB this
    exact absurd (old _ _ h1) (ba _)
  ·have ho:cx.own b:=.inr ⟨y,hcl y b z⟩
   obtain ⟨w1,w2,w3⟩:=r.own b ho
   refine ⟨w1,fun o e'=>?_,fun m' e'=>?_⟩
   ·rcases e' with e'|⟨_,_,e3,_⟩
    ·exact w2 o e'
    ·exact e3 y z
   ·rcases e' with e'|⟨e1,_⟩
    ·exact w3 m' e'
    ·exact (r.cel y b (hcl y b z)).1 e1
 ·have hcc:=hcl y c e
  obtain ⟨c1,⟨o,v',c2,c2'⟩,c3⟩:=r.cel y c hcc
  have lt:=clOld y c e
  refine ⟨fun q=>?_,⟨o,v',keep _ _ c2,c2'⟩,fun e' he hf=>?_⟩
  ·rw [show c=s.heap.objs.size from q] at lt;exact absurd lt (ba _)
  ·rcases aQ.mp he with q|q
   ·subst q;injection (fr0.symm.trans hf) with hf;rw [← hf] at lt;exact absurd lt (ba _)
   ·exact c3 e' q hf
 ·have:=frOld s.heap.objs.size (bP.mpr ⟨e,he,hf⟩);(exact absurd (by assumption) (ba _))
theorem R.leaveL {s s₂:az} {env':Env} {σ₂:AS} (r:R af w cx σ s) (r₂:R af w (cx.calleeL env' s.heap) σ₂ s₂) (vm:VM s.heap s₂.heap)
  (hcl:∀ y c,env'.cells.lookup y=some c→cx.env.cells.lookup y=some c) (hloc:∀ y,(env'.cells.lookup y).isSome=true→σ₂.loc y=σ.loc y)
  (hinj:∀ x y c,cx.env.cells.lookup x=some c→cx.env.cells.lookup y=some c→x=y)
  (hk:∀ y,(env'.cells.lookup y).isSome=true→env'.kindOf y=some .free)
  (hck:∀ y c,cx.env.cells.lookup y=some c→cx.env.kindOf y=some .cell∨cx.env.kindOf y=some .free):R af w cx ⟨σ.loc,σ₂.hp⟩ s₂:=by
 have ownIn:∀ a o,cx.own a→s.heap.get? a=some o→a∉cx.frames→(∀ y,env'.cells.lookup y≠some a)→s₂.heap.get? a=some o:=fun a o h1 h2 h3 h4=>(r₂.pr a o (.inr ⟨h1,h3,h4,h2⟩)).1
 have locNo:∀ y,env'.cells.lookup y≠some cx.env.locals:=fun y q=>(r.cel y _ (hcl y _ q)).1 rfl
 have nsIn:∀ m,s.heap.Ns cx.env.locals m→s₂.heap.Ns cx.env.locals m:=fun m hm=>by
  by_cases hf:cx.env.locals∈cx.frames
  ·exact (r₂.pn _ m (.inr ⟨rfl,hf,hm⟩)).1
  ·obtain ⟨o,es,ep,h1,h2⟩:=hm
   exact ⟨o,es,ep,ownIn _ _ (.inl rfl) h1 hf locNo,h2⟩
 have noFr:∀ x c,cx.env.cells.lookup x=some c→c∉cx.frames:=fun x c h hm=>by obtain ⟨e,he,hf⟩:=dX hm;exact (r.cel x c h).2.2 e he hf
 refine ⟨r₂.stay,r₂.ff.2.2,?_,fun x v e=>?_,fun b o e=>?_,fun b m e=>?_,fun a ao e=>?_,r.own,fun x c e=>?_,r.oth,r₂.gens,r₂.drawn,r₂.os⟩
 ·obtain ⟨m,hm⟩:=r.ns;exact ⟨m,nsIn m hm⟩
 ·obtain ⟨u,l,b⟩:=r.loc x v e
  by_cases hc:(env'.cells.lookup x).isSome=true
  ·obtain ⟨u',l',b'⟩:=r₂.loc x v (by rw [hloc x hc];exact e)
   refine ⟨u',?_,b'⟩
   obtain ⟨c,hc'⟩:=bU.mp hc
   have hcc:=hcl x c hc'
   have body:∃ c o,env'.cells.lookup x=some c∧s₂.heap.get? c=some o∧o.data = .cell (some u'):=by
    unfold ei at l'
    rw [show (cx.calleeL env' s.heap).env.kindOf x=some .free from hk x hc] at l'
    exact l'
   obtain ⟨c',o,h1,h2,h3⟩:=body
   rw [hc'] at h1;cases h1
   unfold ei
   rcases hck x c hcc with z|z
   ·rw [z];exact ⟨c,o,hcc,h2,h3⟩
   ·rw [z];exact ⟨c,o,hcc,h2,h3⟩
  ·refine ⟨u,?_,b.mono vm⟩
   have noCl:∀ c,cx.env.cells.lookup x=some c→∀ y,env'.cells.lookup y≠some c:=fun c hc' y q=>hc (by rw [hinj x y c hc' (hcl y c q),q];rfl)
   unfold ei at l ⊢
   split at l
   ·obtain ⟨m,a1,a2⟩:=l;exact ⟨m,nsIn m a1,a2⟩
   ·obtain ⟨c,o,a1,a2,a3⟩:=l;exact ⟨c,o,a1,ownIn c o (.inr ⟨x,a1⟩) a2 (noFr x c a1) (noCl c a1),a3⟩
   ·obtain ⟨c,o,a1,a2,a3⟩:=l;exact ⟨c,o,a1,ownIn c o (.inr ⟨x,a1⟩) a2 (noFr x c a1) (noCl c a1),a3⟩
   ·exact l
 ·exact ⟨(r₂.pr b o (.inl e)).1,(r.pr b o e).2⟩
 ·exact ⟨(r₂.pn b m (.inl e)).1,(r.pn b m e).2⟩
 ·obtain ⟨p,q1,q2,q3,q4⟩:=r₂.ob a ao e
  refine ⟨p,q1,fun o e'=>q2 o (.inl e'),fun hb=>?_,fun e he hf=>q4 e (.tail _ he) hf⟩
  by_cases hf:a∈cx.frames
  ·obtain ⟨en,he,hf⟩:=dX hf
   exact q4 en (.tail _ he) hf
  ·by_cases hcl':∃ y,env'.cells.lookup y=some a
   ·obtain ⟨y,hy⟩:=hcl';exact q3 (.inr ⟨y,hy⟩)
   ·have hno:∀ y,env'.cells.lookup y≠some a:=fun y q=>hcl' ⟨y,q⟩
    rcases hb with q|⟨x,q⟩
    ·obtain ⟨m,hm⟩:=r.ns
     obtain ⟨o,h1,_⟩:=dB hm
     exact q2 o (.inr ⟨.inl q,hf,hno,by rw [q];exact h1⟩)
    ·obtain ⟨_,⟨o,v,c1,_⟩,_⟩:=r.cel x a q
     exact q2 o (.inr ⟨.inr ⟨x,q⟩,hf,hno,c1⟩)
 ·obtain ⟨p,⟨o,v,c1,c2⟩,c3⟩:=r.cel x c e
  by_cases hcl':∃ y,env'.cells.lookup y=some c
  ·obtain ⟨y,hy⟩:=hcl'
   exact ⟨p,(r₂.cel y c hy).2.1,c3⟩
  ·exact ⟨p,⟨o,v,ownIn c o (.inr ⟨x,e⟩) c1 (noFr x c e) fun y q=>hcl' ⟨y,q⟩,c2⟩,c3⟩
theorem ET (ok:Ok af K cx sc (n+1)) {F c':Addr} {name qual:Str} {params:BC} {body:Expr} {scope:Scope} {pm ctv:Value} {oc:Obj} {vs:Array Value} {t:Tok} {x:Str} {a u:AV}
  (hF:σ.hp F=some (.any (iV (kla_obj name qual params body scope (bY cx.env scope.names []) pm c' ctv)))) (hc:σ.hp c'=some (.any (iV oc))) (hod:oc.data = .fields vs) (hvq:vs[1]?=some (.str qual t))
  (cs:jf scope sc x) (hgen:scope.isGenerator=false) (hco:scope.isCoroutine=false) (hb:∀ v,bindArgs (kla_fn name qual params body scope (bY cx.env scope.names []) pm (.ref c') ctv) ⟨[v],[]⟩=pure [(x,v)])
  (h:∀ cx',Ok af K cx' scope n→cx'.env=cx'.fenv→cx'.A.handled=cx.A.handled→bZ af w cx' body (σ.comp scope x a) (fun u' σ₂=>u'=u∧(σ.comp scope x a).Kept σ₂) (fun ux ux=>False)) :
  gd af w cx (.ref F) [a] σ (fun u' σ₂=>u'=u∧σ.Kept σ₂) (fun ux ux=>False):=by
 intro s vs' r hv
 obtain ⟨v,rfl,p⟩:=ke hv
 refine wpAny_call (kla_callFunE (body:=body) (by have:=ok.depth;lia) (r.iso hF) rfl hco hgen rfl ⟨c',oc,vs,t,rfl,r.iso hc,hod,hvq⟩ ?_)
 rw [hb]
 refine aB (wpAny_newFunctionEnv cs.nocell (fun y hy=>by rw [aC.mp hy];exact cs.x) (fun h₁ hns hsb=>?_) cs.kind)
 have keep:∀ b o,s.heap.get? b=some o→h₁.get? b=some o:=fun b o e=>(hsb.2 b (cw (bq e))).trans (aq _ e)
 refine ⟨(ok.glo.nolimit.keeps r.stay).keeps keep,?_⟩
 have hcl:∀ y c,(bY cx.env scope.names []).lookup y=some c→cx.env.cells.lookup y=some c:=fun y c h=>(nY ok cs h).1
 have hk:∀ y,((bY cx.env scope.names []).lookup y).isSome=true→scope.names.lookup y=some .free:=fun y hy=>by
  obtain ⟨c,hc⟩:=bU.mp hy
  exact (nY ok cs hc).2
 have r₁:=(r.enterL (h₁:=h₁) (tk:=s.toks+[(x,v)].length) (scope:=scope) (cl:=bY cx.env scope.names []) (qual:=qual) (f:=F) (cdv:=.ref c') (x:=x) (a:=a) (v:=v) keep hns (by simp) p hcl cs.kind cs.x hk ok.ck)
 have r₁':=r₁.le (σ':=σ.comp scope x a) (by
  refine ⟨fun y u e=>?_,fun ux ux e=>e⟩
  unfold AS.comp at e
  unfold AS.compLoc
  dsimp only at e ⊢
  split at e
  ·rename_i q;rw [if_pos q];exact e
  ·rename_i q
   rw [if_neg q]
   split at e
   ·rename_i q2
    rw [if_pos (u3 (cx:=cx) cs (by simpa using q2))];exact e
   ·cases e)
 have ok':Ok af K (cx.calleeL (envX qual scope s.heap.objs.size F (.ref c') (bY cx.env scope.names [])) s.heap) scope n:=
  ⟨ok.glo,by show (cx.A.frames.map _)=_;rw [ok.fr];rfl,rfl,cs.kind,rfl,rfl,rfl,hgen,hco,rfl,rfl,cs.kind,by have:=ok.depth;show cx.A.depth+1+4 * n+140<_;lia,by have:=ok.units;show cx.A.units+3+16 * n+200<_;lia,
   fun y z c h1 h2=>ok.inj y z c (hcl y c h1) (hcl z c h2),fun y c h1=> .inr (hk y (by rw [show List.lookup y (bY cx.env scope.names [])=some c from h1];rfl)),fun y h1=>absurd rfl (cs.nocell _ (mem_of_lookup h1))⟩
 refine kla_codeExpr (ak (h _ ok' rfl rfl _ r₁') (fun v' s₂ zz=>zz.use fun u' σ₂ r₂ v₂ m₂ ⟨q1,q2⟩=>?_) fun _ _ ⟨_,_,_,_,_,_,_,_,_,_,_,e⟩=>e.elim)
 have vm:VM s.heap s₂.heap:=(VM.of_keeps keep).trans m₂
 refine ⟨u',_,r.leaveL r₂ vm hcl (fun y hy=>?_) ok.inj (fun y hy=>hk y hy) ok.ck,v₂,vm,q1,rfl,fun b o e=>q2.2 b o e⟩
 have h2:=hk y hy
 rw [q2.1]
 unfold AS.comp
 dsimp only
 rw [if_neg (fun q=>by subst q;rw [cs.x] at h2;cases h2),if_pos (by rw [h2];rfl)]
end
inductive GA (P:Addr) (pos:Pos) (qual:Str) (σ:AS):Prop
 |fresh (h:σ.hp P=some (.any (iV (i8 #[])))):GA P pos qual σ
 |made (c':Addr) (oc:Obj) (vs:Array Value) (t:Tok) (h:σ.hp P=some (.any (iV (i8 #[eG pos.line,eG pos.col,.ref c'])))) (hc:σ.hp c'=some (.any (iV oc))) (hd:oc.data = .fields vs) (hv:vs[1]?=some (.str qual t)):GA P pos qual σ
inductive tP (cx:CX) (params:BC) (body:Expr) (scope:Scope) (qual:Str) (F:Addr) (σ:AS):Prop
 |mk (c':Addr) (oc:Obj) (vs:Array Value) (t:Tok) (pm ctv:Value) (hF:σ.hp F=some (.any (iV (kla_obj "<lambda>" qual params body scope (bY cx.env scope.names []) pm c' ctv)))) (hc:σ.hp c'=some (.any (iV oc))) (hd:oc.data = .fields vs) (hv:vs[1]?=some (.str qual t)):tP cx params body scope qual F σ
section
variable {K:Frag} {cx:CX} {sc:Scope} {n:Nat} {σ σ':AS} {Q:AV→AS→Prop} {QB:Bool→AS→Prop} {QF:AF→AS→Prop} {E:Value→AS→Prop} {pos:Pos}
theorem GA.at {P:Addr} {qual:Str} (h:GA P pos qual σ):∃ ps,σ.hp P=some (.any (iV (i8 ps))):=by
 cases h with
 |fresh h=>exact ⟨_,h⟩
 |made c' oc vs t h hc hd hv=>exact ⟨_,h⟩
theorem GA.sub {P:Addr} {qual:Str} (h:GA P pos qual σ) (s:σ.Sub σ'):GA P pos qual σ':=by
 cases h with
 |fresh h=>exact .fresh (s _ _ h)
 |made c' oc vs t h hc hd hv=>exact .made c' oc vs t (s _ _ h) (s _ _ hc) hd hv
theorem GA.but {P S H:Addr} {sp hd:List (Int×Int)} {qual:Str} (h:GA P pos qual σ) (s:σ.But S H σ') (hS:σ.hp S=some (.dict sp)) (hH:σ.hp H=some (.dict hd)):GA P pos qual σ':=by
 cases h with
 |fresh h=>exact .fresh (s.at hS hH h (by intro d q;cases q))
 |made c' oc vs t h hc hd hv=>exact .made c' oc vs t (s.at hS hH h (by intro d q;cases q)) (s.at hS hH hc (by intro d q;cases q)) hd hv
theorem tP.sub {params:BC} {body:Expr} {scope:Scope} {qual:Str} {F:Addr} (h:tP cx params body scope qual F σ) (s:σ.Sub σ'):tP cx params body scope qual F σ':=
 let ⟨c',oc,vs,t,pm,ctv,hF,hc,hd,hv⟩:=h
 ⟨c',oc,vs,t,pm,ctv,s _ _ hF,s _ _ hc,hd,hv⟩
theorem yL (ok:Ok af K cx sc n) {c P:Addr} {params:BC} {body:Expr} {scope:Scope} {x:Str} (hcode:cx.env.code = .ref c) (C:CodeHd cx.base c P) (hg:GA P pos (cx.env.qual++"<lambda>") σ) (cs:jf scope sc x) (hdef:defaultsOf params cx.env=([],[]))
  (h:∀ F σ',σ'.loc=σ.loc→(∀ a o,a≠P→σ.hp a=some o→σ'.hp a=some o)→tP cx params body scope (cx.env.qual++"<lambda>") F σ'→GA P pos (cx.env.qual++"<lambda>") σ'→Q (.ref F) σ') :
  bZ af w cx (.Lambda params body scope pos) σ Q E:=fun s r=>by
 refine kla_eval hdef ?_
 obtain ⟨mg,hmg,bm,ob,b1,b2,b3,b4,b5,b6⟩:=ok.glo.bm
 have hgs:=hmg.keeps r.stay
 obtain ⟨ps,hP⟩:=hg.at
 have hP':=r.iso hP
 have hgP:bk≠P:=fun q=>by
  obtain ⟨o,es,ep,e,hd,_⟩:=hgs
  rw [q,hP'] at e;cases e;cases hd
 have hbP:bm≠P:=fun q=>by
  have e:=r.stay _ _ b3
  rw [q,hP'] at e;cases e;cases b4
 have hbG:bm≠bk:=fun q=>by
  obtain ⟨o,es,ep,e,hd,_⟩:=hmg
  rw [q,e] at b3;cases b3;rw [hd] at b6;cases b6
 have hcl:closureFor scope cx.env=pure (bY cx.env scope.names []):=l6 fun y hy hf=>ok.cc _ (cs.cells y hy hf)
 have hB:∀ P',bm≠P'→s.heap.BuiltinsAt mg P':=fun P' hb=>⟨bm,ob,b1,b2,hbG,hb,r.stay _ _ b3,b4,b5,b6⟩
 have Plt:(P:Nat)<s.heap.objs.size:=bq hP'
 cases hg with
 |fresh h0 =>
  refine kla_makeFunction (mg:=mg) hcl ok.glob hgs hcode (C.keeps r.stay) (r.iso h0) trivial rfl hgP (hB _ hbP) fun c' ctv h' tk hx hge hlt hrec htb=>?_
  obtain ⟨c₂,oc,vs,t,e2,hoc,hd,hv⟩:=hrec
  cases e2
  have lt1:(P:Nat)<c':=bO Plt hge
  obtain ⟨r1,vm⟩:=r.upd (h':=h'.push (kla_obj "<lambda>" (cx.env.qual++"<lambda>") params body scope (bY cx.env scope.names []) ((mg "__name__").getD .none) c' ctv)) (tk:=tk) (ao':=.any (iV (i8 (#[]++#[eG pos.line,eG pos.col,.ref c'])))) h0 rfl (fun b o hb e=>aq _ (hx b o hb e)) (fun vm=>nx (aq _ htb) (by intro xs n _ q;cases q))
  have off1:Off cx (σ.put P (.any (iV (i8 (#[]++#[eG pos.line,eG pos.col,.ref c']))))) c':=(Off.new r (jx hge)).put_new (d7 lt1)
  have r2:=r1.track off1 (nx (aq _ hoc) (by intro xs n _ q;rw [hd] at q;cases q))
  have off2:=((Off.new r (jx (b7 (fB hge hlt)))).put_new (ao:=.any (iV (i8 (#[]++#[eG pos.line,eG pos.col,.ref c'])))) (d7 (Nat.lt_trans lt1 hlt))).put_new (ao:=.any (iV oc)) (d7 hlt)
  have r3:=r2.track off2 (ao:=.any (iV (kla_obj "<lambda>" (cx.env.qual++"<lambda>") params body scope (bY cx.env scope.names []) ((mg "__name__").getD .none) c' ctv))) (nx (aS _ rfl) (by intro xs n _ q;cases q))
  have nF:(h'.objs.size:Nat)≠c':=d7 hlt
  have nFP:(h'.objs.size:Nat)≠P:=d7 (Nat.lt_trans lt1 hlt)
  have ncP:(c':Nat)≠P:=d7 lt1
  refine ⟨.ref _,_,r3,di,vm,h _ _ rfl (fun a o ha e=>?_) ⟨c',oc,vs,t,_,ctv,aX,bH (bl nF) aX,hd,hv⟩ (.made c' oc vs t (bH (bl nFP) (bH (bl ncP) aX)) (bH (bl nF) aX) hd hv)⟩
  have hao:(a:Nat)<s.heap.objs.size:=by
   obtain ⟨o',ho',_⟩:=(r.ob a o e).1.there
   exact bq ho'
  exact bH (cw (Nat.lt_trans (bO hao hge) hlt)) (bH (cw (bO hao hge)) (bH ha e))
 |made c' oc vs t h0 hc hd hv =>
  refine kla_makeFunctionHit (mg:=mg) (cv:=.ref c') hcl ok.glob hgs hcode (C.keeps r.stay) (r.iso h0) (by simp [TriplesOk,eG]) (by simp [codeAmong,eG]) (hB _ hbP) fun ctv h' tk hk hsz=>?_
  have nF:s.heap.get? h'.objs.size=none:=jx hsz
  have offF:=Off.new r nF
  have r1:=r.new (h':=h'.push (kla_obj "<lambda>" (cx.env.qual++"<lambda>") params body scope (bY cx.env scope.names []) ((mg "__name__").getD .none) c' ctv)) (tk:=tk) (ao:=.any (iV (kla_obj "<lambda>" (cx.env.qual++"<lambda>") params body scope (bY cx.env scope.names []) ((mg "__name__").getD .none) c' ctv))) nF (fun b o e=>aq _ (hk b o e)) (nx (aS _ rfl) (by intro xs n _ q;cases q))
  have ne:∀ a o,σ.hp a=some o→a≠h'.objs.size:=fun a o e q=>by subst q;exact offF.hp _ e
  exact ⟨.ref _,_,r1,di,VM.of_keeps fun b o e=>aq _ (hk b o e),h _ _ rfl (fun a o ux e=>bH (ne a o e) e) ⟨c',oc,vs,t,_,ctv,aX,bH (ne _ _ hc) hc,hd,hv⟩ (.made c' oc vs t (bH (ne _ _ h0) h0) (bH (ne _ _ hc) hc) hd hv)⟩
noncomputable def WSk (af:aV) (w:World) (cx:CX) (a b:AV) (σ:AS) (Q:AV→AS→Prop) (E:Value→AS→Prop):Prop:=
 ∀ s va vb,R af w cx σ s→VR s.heap a va→VR s.heap b vb→wpAny (model af w) cx.A (call (.builtin "sorted") [va] [(aa "key",vb)]) (dU af w VR cx s Q) (dh af w cx s E) s
theorem BV (ok:Ok af K cx sc n) {px kp:Pos} {e lam:Expr} (hx:sc.names.lookup (aa "sorted")=some .globalImplicit) (hn:nsIn K bk (aa "sorted")=some none) (hb:fK (aa "sorted")=some (.builtin "sorted"))
  (he:∀ env,bv [e] env=(false,eval e env)::bv [] env)
  (h:bZ af w cx e σ (fun a σ₁=>bZ af w cx lam σ₁ (fun b σ₂=>WSk af w cx a b σ₂ Q E) E) E) :
  bZ af w cx (.Call (.Name (aa "sorted") px) [e] [⟨some (aa "key"),lam,kp⟩] pos) σ Q E:=fun s r=>by
 refine wpAny_Call_Name_kw (ak (kC (Q:=fun a σ'=>a = .raw (.builtin "sorted")∧σ'=σ) (E:=E) ok hx hn (by decide) hb ⟨rfl,rfl⟩ (by decide) s r) (fun v s₁ zz=>zz.use fun a σ₁ r₁ v₁ m₁ ⟨ha,hσ⟩=>?_) fun ux ux e=>e)
 subst ha hσ
 rw [show v = .builtin "sorted" from v₁]
 have he':db pos (bv [e] cx.env)=(false,eval e cx.env)::db pos (bv [] cx.env):=by unfold db;rw [he];rfl
 refine callWith_kw ?_ he' (by rw [he'];rfl) rfl rfl
 have key:fN af w cx pos [e] σ₁ (fun l σ₂=>∃ a,l=[a]∧bZ af w cx lam σ₂ (fun b σ₃=>WSk af w cx a b σ₃ Q E) E) E:=by
  refine vn he fun s r=>ak (h s r) (fun v s₁ zz=>zz.use fun a σ₁ r₁ v₁ m₁ q₁=>⟨a,σ₁,r₁,v₁,m₁,?_⟩) fun ux ux e=>e
  exact aN ⟨a,rfl,q₁⟩
 refine ak (key s₁ r₁) (fun vs s₂ zz=>zz.use fun l σ₂ r₂ v₂ m₂ zz=>?_) fun ux ux e=>e.mono m₁
 obtain ⟨a,hl,q₂⟩:=zz
 subst hl
 obtain ⟨va,rfl,pa⟩:=ke v₂
 refine kws_cons (ak (q₂ s₂ r₂) (fun vb s₃ zz=>zz.use fun b σ₃ r₃ v₃ m₃ q₃=>kws_nil ?_) fun ux ux e=>e.mono (m₁.trans m₂))
 exact ak (q₃ s₃ va vb r₃ (pa.mono m₃) v₃) (fun ux ux p=>p.mono ((m₁.trans m₂).trans m₃)) fun ux ux e=>e.mono ((m₁.trans m₂).trans m₃)
end
theorem oQ {α β:Type}:∀ {l:List α} {m:List β},l.length=m.length→(l.zip m).map (·.2)=m
 |[],[],_=>rfl
 |_::_,[],h=>by simp at h
 |[],_::_,h=>by simp at h
 |a::l,b::m,h=>by rw [jV,aM,oQ (by simpa using h)]
theorem vC {f:Int→Int}:∀ {l m:List Value},l.map fy=(m.map fy).map f→∀ p∈l.zip m,fy p.1=f (fy p.2)
 |[],_,_,p,hp=>by simp at hp
 |_::_,[],_,p,hp=>by simp at hp
 |a::l,b::m,h,p,hp=>by
  rw [aM,aM,aM] at h
  rw [jV] at hp
  rcases aQ.mp hp with q|q
  ·subst q;exact (List.cons.inj h).1
  ·exact vC (List.cons.inj h).2 p q
noncomputable def n6 (f:Int→Int) (i j:Int):Prop:=f i<f j∨(f i=f j∧i<j)
section
variable {K:Frag} {cx:CX} {sc:Scope} {n:Nat} {σ σ':AS} {Q:AV→AS→Prop} {QB:Bool→AS→Prop} {QF:AF→AS→Prop} {E:Value→AS→Prop} {pos:Pos}
theorem ku {h:Heap} {a:Addr} {xs:Array Value} {e:Nat} (g:h.get? a=some (bX "list" xs e)):OR af w h a (.any (iV (bX "list" xs e))):=nx g (by intro xs n q;exact absurd q (by simp))
theorem vM {s s₀:az} {a kS:Addr} {us:List Value} {ns:List Int} {f:Int→Int} {kA:Array Value} {e e1:Nat} {st:ah} {P:PySem.Fin→az→Prop} {E':Value→az→Prop} (r:R af w cx ((σ.put a (.any (iV (bX "list" #[] e1)))).put kS (.any (iV (bX "list" kA e)))) s) (vm₀:VM s₀.heap s.heap)
  (hna:σ.hp a=none) (hnk:σ.hp kS=none) (hka:kS≠a) (hus:us.map fy=ns) (hui:∀ v∈us,∃ i t,v = .int i t) (hkA:kA.toList.map fy=ns.map f) (hz:ns.length<aH) (hp:(arrOf st).toList.Perm (kA.toList.zip us)) (hs:(arrOf st).toList.Pairwise (RR LI fun x y=>fy x.2<fy y.2)) (hfl:dD st=none)
  (h:∀ σ' s' (ms:List Int),R af w cx σ' s'→VM s₀.heap s'.heap→σ.Sub σ'→σ'.loc=σ.loc→σ'.hp a=some (.list (ms.map AV.int))→ms.Perm ns→ms.Pairwise (n6 f)→P (.done (.ret .none)) s') :
  wpAny (model af w) cx.A (ksk_tail a false e1 (.ref kS) st) P E' s:=by
 have hul:us.length=ns.length:=by rw [← hus,aj]
 have hkl:kA.size=ns.length:=by
  have:=congrArg bM hkA
  rw [aj,aj,aD] at this
  exact this
 have hsz:(arrOf st).size=ns.length:=by
  have:=hp.length_eq
  rw [aD,List.length_zip,aD,hkl,hul,Nat.min_self] at this
  exact this
 have hoK:=r.iso aX
 have s1:=gZ s.heap kS (a9 fun ux=>(#[]:Array Value))
 obtain ⟨c1,hc1⟩:∃ c1,(s.heap.update kS (a9 fun ux=>(#[]:Array Value))).get? kS=some (bX "list" #[] c1):=⟨_,jy hoK fun ux=>#[]⟩
 obtain ⟨r1,m1⟩:=r.upd (h':=s.heap.update kS (a9 fun ux=>(#[]:Array Value))) (tk:=s.toks) (ao':=.any (iV (bX "list" #[] c1))) aX rfl (fun b o hb e=>(s1.2 b hb).trans e) (fun ux=>ku hc1)
 rw [mB] at r1
 have hoA:=r1.iso (a:=a) (bH (bl hka) aX)
 obtain ⟨out,hout⟩:∃ out:Array Value,(arrOf st).map (·.2)=out:=⟨_,rfl⟩
 have s2:=gZ (s.heap.update kS (a9 fun ux=>(#[]:Array Value))) a (a9 fun ux=>out)
 obtain ⟨c2,hc2⟩:∃ c2,((s.heap.update kS (a9 fun ux=>(#[]:Array Value))).update a (a9 fun ux=>out)).get? a=some (bX "list" out c2):=⟨_,jy hoA fun ux=>out⟩
 have hpu:((arrOf st).toList.map (·.2)).Perm us:=by
  have:=hp.map (·.2)
  rw [oQ (by rw [aD,hkl,hul])] at this
  exact this
 obtain ⟨r2,m2⟩:=r1.upd (h':=(s.heap.update kS (a9 fun ux=>(#[]:Array Value))).update a (a9 fun ux=>out)) (tk:=s.toks) (ao':=.list ((((arrOf st).toList.map (·.2)).map fy).map AV.int)) (bH (bl hka) aX) rfl (fun b o hb e=>(s2.2 b hb).trans e)
  (fun ux=>⟨(arrOf st).toList.map (·.2),⟨c2,by rw [show ((arrOf st).toList.map (·.2)).toArray=out by rw [← hout,← Array.toList_map,m7]];exact hc2⟩,pv fun v hv=>hui v (hpu.mem_iff.mp hv)⟩)
 unfold ksk_tail
 try dsimp only
 rw [hout]
 refine ag (nc hoK rfl ?_ (by rw [hkl];exact b7 hz) (dw _))
 refine ag (ie ?_)
 refine ag (seqEpoch_at hoA rfl ?_)
 refine ag (nc hoA rfl ?_ (dw _) (by show out.size≤_;rw [← hout,Array.size_map,hsz];lia))
 rw [hfl]
 simp only [bne_self_eq_false,bQ,if_false]
 refine aB (h _ _ _ r2 ((vm₀.trans m1).trans m2) (fun b o e=>?_) rfl aX ?_ ?_)
 ·have n1:b≠a:=fun q=>by subst q;rw [hna] at e;cases e
  have n2:b≠kS:=fun q=>by subst q;rw [hnk] at e;cases e
  exact bH n1 (bH n2 (bH n1 e))
 ·rw [← hus];exact hpu.map _
 ·rw [cq,cq]
  have rel:∀ p∈(arrOf st).toList,fy p.1=f (fy p.2):=fun p hpp=>vC (by rw [hkA,hus]) p (hp.mem_iff.mp hpp)
  refine hs.imp_of_mem fun {x y} hx hy hxy=>?_
  have h1:=hxy.1
  have h2:=hxy.2
  unfold LI at h1 h2
  rw [rel x hx,rel y hy] at h1 h2
  simp only [decide_eq_false_iff_not,decide_eq_true_eq] at h1 h2
  show f (fy x.2)<f (fy y.2)∨(f (fy x.2)=f (fy y.2)∧fy x.2<fy y.2)
  lia
theorem B8 {s:az} {a F:Addr} {us:List Value} {ns:List Int} {f:Int→Int} {e0:Nat} {P:PySem.Fin→az→Prop} {E':Value→az→Prop} (r:R af w cx (σ.put a (.any (iV (bX "list" us.toArray e0)))) s) (hna:σ.hp a=none)
  (hus:us.map fy=ns) (hui:∀ v∈us,∃ i t,v = .int i t) (hns:ns.Pairwise (·<·)) (hz:ns.length<aH)
  (turn:∀ σ' i,i∈ns→σ.Sub σ'→σ'.loc=σ.loc→gd af w cx (.ref F) [.int i] σ' (fun u σ₂=>u = .int (f i)∧σ'.Kept σ₂) (fun ux ux=>False))
  (h:∀ σ' s' (ms:List Int),R af w cx σ' s'→VM s.heap s'.heap→σ.Sub σ'→σ'.loc=σ.loc→σ'.hp a=some (.list (ms.map AV.int))→ms.Perm ns→ms.Pairwise (n6 f)→P (.done (.ret .none)) s') :
  wpAny (model af w) cx.A (ksk_tree a (.ref F) false) P E' s:=by
 have hul:us.length=ns.length:=by rw [← hus,aj]
 have ho:=r.iso aX
 have ha:(a:Nat)<s.heap.objs.size:=bq ho
 have s1:=gZ s.heap a (a9 fun ux=>(#[]:Array Value))
 obtain ⟨e1,ho1⟩:∃ e1,(s.heap.update a (a9 fun ux=>(#[]:Array Value))).get? a=some (bX "list" #[] e1):=⟨_,jy ho fun ux=>#[]⟩
 obtain ⟨r1,m1⟩:=r.upd (h':=s.heap.update a (a9 fun ux=>(#[]:Array Value))) (tk:=s.toks) (ao':=.any (iV (bX "list" #[] e1))) aX rfl (fun b o hb e=>(s1.2 b hb).trans e) (fun ux=>ku ho1)
 rw [mB] at r1
 have hkS:((s.heap.update a (a9 fun ux=>(#[]:Array Value))).push (bX "tuple" us.toArray 0)).objs.size=s.heap.objs.size+1:=by rw [size_push',fQ]
 generalize hkk:((s.heap.update a (a9 fun ux=>(#[]:Array Value))).push (bX "tuple" us.toArray 0)).objs.size=kS at hkS
 have hka:(kS:Nat)≠a:=by rw [hkS];exact d7 (cM ha)
 have hk2:∀ b o,(s.heap.update a (a9 fun ux=>(#[]:Array Value))).get? b=some o→(((s.heap.update a (a9 fun ux=>(#[]:Array Value))).push (bX "tuple" us.toArray 0)).push (bX "list" #[] 0)).get? b=some o:=fun b o e=>aq _ (aq _ e)
 have nk:(s.heap.update a (a9 fun ux=>(#[]:Array Value))).get? kS=none:=jx (by rw [fQ,hkS];exact fV _)
 have hnk:σ.hp kS=none:=by
  cases q:σ.hp kS with
  |none=>rfl
  |some o =>
   have n0:(kS:Nat)≠a:=hka
   exact absurd (bH n0 q) ((Off.new r1 nk).hp o)
 have r2:=r1.new (h':=((s.heap.update a (a9 fun ux=>(#[]:Array Value))).push (bX "tuple" us.toArray 0)).push (bX "list" #[] 0)) (tk:=s.toks) (a:=kS) (ao:=.any (iV (bX "list" #[] 0))) nk hk2 (ku (by rw [← hkk];exact aS _ rfl))
 have m2:VM s.heap (((s.heap.update a (a9 fun ux=>(#[]:Array Value))).push (bX "tuple" us.toArray 0)).push (bX "list" #[] 0)):=m1.trans (VM.of_keeps hk2)
 have sub:∀ kA e,σ.Sub ((σ.put a (.any (iV (bX "list" #[] e1)))).put kS (.any (iV (bX "list" kA e)))):=fun kA e b o q=>by
  have n1:b≠a:=fun z=>by subst z;rw [hna] at q;cases q
  have n2:b≠kS:=fun z=>by subst z;rw [hnk] at q;cases q
  exact bH n2 (bH n1 q)
 unfold ksk_tree
 refine ag (listItems_at ho rfl ?_)
 refine ag (nc ho rfl ?_ (by rw [cm,hul];exact b7 hz) (dw _))
 refine ag (seqEpoch_at ho1 rfl ?_)
 refine ag (wpAny_newTuple ?_ (by show us.length≤_;rw [hul];exact b7 hz))
 refine ag (xf ?_ (dw _))
 refine dq ?_
 show wpAny _ _ (ksk_rest a (.ref F) false us.toArray e1 (.ref ((s.heap.update a (a9 fun ux=>(#[]:Array Value))).push (bX "tuple" us.toArray 0)).objs.size)) _ _ { s with heap:=((s.heap.update a (a9 fun ux=>(#[]:Array Value))).push (bX "tuple" us.toArray 0)).push (bX "list" #[] 0) }
 rw [hkk]
 unfold ksk_rest
 refine ag (rW ?_)
 first
  |rw [List.forIn_toArray]
  |(rw [← Array.forIn_toList];simp only [List.toList_toArray])
  |rw [← Array.forIn_toList]
 refine ag (ksk_fold (fun i s'=>∃ kA e,R af w cx ((σ.put a (.any (iV (bX "list" #[] e1)))).put kS (.any (iV (bX "list" kA e)))) s'∧VM s.heap s'.heap∧kA.toList.map fy=(ns.take i).map f∧∀ v∈kA.toList,∃ i t,v = .int i t) us 0 _
  ⟨#[],0,r2,m2,by simp,by simp⟩ ?step ?done)
 case step =>
  rintro j x s' hx ⟨kA,e,r',m',hk,hki⟩
  simp only [vq] at hk ⊢
  have hj:j<us.length:=(aF.mp hx).1
  obtain ⟨i,t,rfl⟩:=hui x (aE hx)
  have hij:ns[j]?=some i:=by rw [← hus,aR,hx];rfl
  have hkz:kA.size≤ns.length:=by
   have:=congrArg bM hk
   rw [aj,aD,aj,bh] at this
   lia
  refine ag (oG (ak (turn _ i (aE hij) (sub kA e) rfl s' [.int i t] r' ⟨_,[],rfl,cQ,rfl⟩) (fun v s'' zz=>zz.use fun u σ₂ r₂ v₂ m₂ ⟨q1,q2⟩=>?_) fun _ _ ⟨_,_,_,_,_,_,_,_,_,_,_,e⟩=>e.elim))
  subst q1
  obtain ⟨t2,rfl⟩:=v₂
  try dsimp only
  have r₃:=r₂.le (σ':=(σ.put a (.any (iV (bX "list" #[] e1)))).put kS (.any (iV (bX "list" kA e)))) ⟨fun y u e=>by rw [q2.1];exact e,q2.2⟩
  have hoK:=r₃.iso aX
  have s3:=gZ s''.heap kS (a9 (·.push (.int (f i) t2)))
  obtain ⟨c2,hc2⟩:∃ c2,(s''.heap.update kS (a9 (·.push (.int (f i) t2)))).get? kS=some (bX "list" (kA.push (.int (f i) t2)) c2):=⟨_,jy hoK (·.push (.int (f i) t2))⟩
  obtain ⟨r₄,m₄⟩:=r₃.upd (h':=s''.heap.update kS (a9 (·.push (.int (f i) t2)))) (tk:=s''.toks) (ao':=.any (iV (bX "list" (kA.push (.int (f i) t2)) c2))) aX rfl (fun b o hb e=>(s3.2 b hb).trans e) (fun ux=>ku hc2)
  rw [mB] at r₄
  have ea:(kA.push (Value.int (f i) t2)).toList=kA.toList++[Value.int (f i) t2]:=by simp
  refine ag (nc hoK rfl ?_ (by lia) (aI (gR (Array.size_push ..)) (by lia)))
  refine aB ⟨rfl,kA.push (.int (f i) t2),c2,r₄,(m'.trans m₂).trans m₄,?_,?_⟩
  ·rw [ea,bu,hk,List.take_add_one,hij,bu]
   rfl
  ·intro v hv
   rw [ea] at hv
   rcases ay.mp hv with q|q
   ·exact hki v q
   ·exact ⟨_,_,aC.mp q⟩
 case done =>
  rintro s' ⟨kA,e,r',m',hk,hki⟩
  have hk':kA.toList.map fy=ns.map f:=by
   rw [hk,cB (by lia)]
  have hkl:kA.size=ns.length:=by
   have:=congrArg bM hk'
   rw [aj,aj,aD] at this
   exact this
  have hsnd:((kA.zip us.toArray).toList).map (·.2)=us:=by
   rw [ksk_zip];exact oQ (by rw [aD,hkl,hul])
  try dsimp only
  refine ag (listItems_at (r'.iso aX) rfl ?_)
  unfold ksk_end
  try dsimp only
  simp only [bQ,if_false]
  by_cases h2:us.toArray.size<2
  ·rw [if_pos h2,if_pos h2]
   refine ag (aB ?_)
   rw [StateT.run_pure]
   refine ag (aB ?_)
   try dsimp only
   refine vM (st:=ah.mk' general' (kA.zip us.toArray) #[] 7 none) r' m' hna hnk hka hus hui hk' hz ?_ ?_ rfl h
   ·show (kA.zip us.toArray).toList.Perm _
    rw [ksk_zip]
   ·refine mQ ?_
    show (kA.zip us.toArray).toList.length<2
    rw [ksk_zip,List.length_zip]
    rw [cm] at h2
    lia
  ·rw [if_neg h2,if_neg h2]
   rw [cm] at h2
   rw [ksk_kind (kx (h:=s'.heap) (pv hki)) (by rw [hkl];lia)]
   refine ag (aB ?_)
   refine ag (ak (lG (T:=fun x y=>fy x.2<fy y.2) (s:=s') (E:=E') tm (a₀:=(kA.zip us.toArray).toList) (st:=ah.mk' oneType' (kA.zip us.toArray) #[] 7 none)
    (Q:=fun ux st'=>(arrOf st').toList.Perm (kA.zip us.toArray).toList∧dD st'=none∧(arrOf st').toList.Pairwise (RR LI fun x y=>fy x.2<fy y.2))
    rfl rfl rfl rfl ?_ ?_ ?_ fun st' a1 a2 a3=>⟨a2,a1,a3⟩) ?_ fun ux ux e=>e)
   ·intro p hp
    rw [ksk_zip] at hp
    obtain ⟨p1,p2⟩:=p
    exact hki _ (List.of_mem_zip hp).1
   ·have:(((kA.zip us.toArray).toList.map (·.2)).map fy).Pairwise (·<·):=by rw [hsnd,hus];exact hns
    rw [cq,cq] at this
    exact this
   ·rw [ksk_zip,List.length_zip,aD,hkl,hul];lia
   ·rintro ⟨⟨⟩,st'⟩ s'' ⟨rfl,hp,hf,hs⟩
    try dsimp only
    rw [ksk_zip] at hp
    exact vM r' m' hna hnk hka hus hui hk' hz hp hs hf h
theorem xt {x F:Addr} {ns:List Int} {f:Int→Int} (hx:σ.lst x (ns.map AV.int)) (hz:ns.length<aH) (hns:ns.Pairwise (·<·))
  (turn:∀ σ' i,i∈ns→σ.Sub σ'→σ'.loc=σ.loc→gd af w { cx with A:=cx.A.in1.in1 } (.ref F) [.int i] σ' (fun u σ₂=>u = .int (f i)∧σ'.Kept σ₂) (fun ux ux=>False))
  (h:∀ y (ms:List Int) σ',σ.hp y=none→ms.Perm ns→ms.Pairwise (n6 f)→σ.Sub σ'→σ'.loc=σ.loc→σ'.hp y=some (.list (ms.map AV.int))→Q (.ref y) σ'):WSk af w cx (.ref x) (.ref F) σ Q E:=by
 intro s va vb r pa pb
 rw [show va = .ref x from pa,show vb = .ref F from pb]
 obtain ⟨us,hl,q⟩:=r.lst hx
 obtain ⟨hk,hi⟩:=rZ q
 have hul:us.length=ns.length:=by rw [← hk,aj]
 refine call_function_entry_kw kind_sorted plain_sorted entry_sorted (ksk_s1 _ _) ?_
 unfold Builtin.«sorted»
 refine ag (m:=checkCount "sorted" 1 1 _) (aB ?_)
 refine ag (collect_list hl ?_ (by lia))
 refine ag (xf ?_ (by lia))
 have hsz:((s.heap.push (bX "list" #[] 0)).update s.heap.objs.size (a9 (·++us.toArray))).objs.size=s.heap.objs.size+1:=by
  rw [fQ,size_push']
 have hoL:(((s.heap.push (bX "list" #[] 0)).update s.heap.objs.size (a9 (·++us.toArray))).push (bX "list" us.toArray 0)).get? (s.heap.objs.size+1)=some (bX "list" us.toArray 0):=by
  rw [← hsz];exact aS _ rfl
 have keep:∀ b o,s.heap.get? b=some o→(((s.heap.push (bX "list" #[] 0)).update s.heap.objs.size (a9 (·++us.toArray))).push (bX "list" us.toArray 0)).get? b=some o:=fun b o q=>by
  have hlt:b<s.heap.objs.size:=bq q
  rw [fc _ _ _ (by rw [hsz];exact cw (cM hlt)),qH _ _ _ _ (cw hlt),fc _ _ _ (cw hlt)]
  exact q
 have n1:s.heap.get? (s.heap.objs.size+1)=none:=jx (fV _)
 have hn1:σ.hp (s.heap.objs.size+1)=none:=by
  cases q:σ.hp (s.heap.objs.size+1) with
  |none=>rfl
  |some ao=>exact absurd q ((Off.new r n1).hp ao)
 have r1:=(r.new (tk:=s.toks) (ao:=.any (iV (bX "list" us.toArray 0))) n1 keep (ku hoL)).inA (A':=cx.A.in1.in1)
 show wpAny _ _ _ _ _ { s with heap:=((s.heap.push (bX "list" #[] 0)).update s.heap.objs.size (a9 (·++us.toArray))).push (bX "list" us.toArray 0) }
 rw [hsz]
 refine ag (dq (wpAny_call_entry_kw slot_list_sort ⟨_,hoL,rfl⟩ entry_list_sort ?body (ksk_l1 _ _)))
 case body =>
  show wpAny (model af w) cx.A.in1.in1 (Builtin.«list.sort» ⟨[.ref (s.heap.objs.size+1)],[(aa "key",.ref F)]⟩) _ _ _
  rw [ksk_t1]
  refine B8 (cx:={ cx with A:=cx.A.in1.in1 }) r1 hn1 hk hi hns hz turn fun σ' s' ms r' m' sb lc ha hp hs=>⟨_,rfl,?_⟩
  exact aB ⟨_,rfl,.ref _,σ',r'.outA,di,(VM.of_keeps keep).trans m',h _ ms σ' hn1 hp hs sb lc ha⟩
theorem pV {A:dM} {E:Value→az→Prop} {s:az} {l:Addr} {items:Array Value} {k:Int} {t:Tok} {v:Value} {Q:Unit→az→Prop} (hl:s.heap.PlainList l items) (h0:0≤k) (hfit:k<2 ^ 63) (hn:k<items.size)
  (hQ:∀ h',h'.PlainList l (items.setIfInBounds k.toNat v)→Heap.SameBut l s.heap h'→Q () { s with heap:=h' }) :
  wpAny (model af w) A (setItem (.ref l) (.int k t) v) Q E s:=by
 obtain ⟨ne,ho⟩:=id hl
 have hl':=hl.isList
 unfold setItem
 try with_reducible refine dq ?_
 first|refine ag (aB ?_)|skip
 refine ag (wpAny_sequenceKey hl'.typeIs (by decide) ?_)
 refine ag (lH (name:=aa "__setitem__") hl'.typeIs PySem.slot_list_setitem
  (ou PySem.slot_list_setitem hl'.typeIs PySem.entry_list_setitem ?_ (PySem.args_list_setitem _ _ _)))
 show wpAny _ _ (Builtin.List.listSubscript? (.int k t) >>= _) _ _ s
 refine ag (wpAny_listSubscript_int (fitsIndex_of h0 hfit) ?_)
 clear hfit
 obtain ⟨j,rfl⟩:=tQ h0
 have hj:j<items.size:=by lia
 have hx':items[j]?=some items[j]:=Array.getElem?_eq_getElem hj
 show wpAny _ _ ((seqItemAt l j >>= fun r=>pure (r.map (j,·))) >>= _) _ _ s
 refine ag (ag (wpAny_seqItemAt ho rfl (aB ?_)))
 rw [hx']
 show wpAny _ _ (setSeqItemAt l j v >>= _) _ _ s
 have CA:(s.heap.update l (a9 (·.setIfInBounds j v))).PlainList l (items.setIfInBounds j v):=⟨_,jy ho (·.setIfInBounds j v)⟩
 refine ag (wpAny_setSeqItemAt ho rfl ?_)
 first
  |exact ag (aB (aB ⟨.none,rfl,aB (hQ _ CA (gZ ..))⟩))
  |exact aB ⟨.none,rfl,aB (hQ _ CA (gZ ..))⟩
theorem vG {h:Heap}:∀ {l:List AV} {vs:List Value} {a:AV} {v:Value} (i:Nat),iM h l vs→VR h a v→iM h (l.set i a) (vs.set i v)
 |[],_,_,_,_,e,_=>by rw [show _=[] from e];simp;rfl
 |b::l,_,a,v,0,⟨u,r,e,p,q⟩,x=>by rw [e];exact ⟨v,r,rfl,x,q⟩
 |b::l,_,a,v,i+1,⟨u,r,e,p,q⟩,x=>by rw [e];exact ⟨u,_,rfl,p,vG i q x⟩
theorem yW {x:Addr} {l:List AV} {k:Int} {a:AV} {Q:Unit→AS→Prop} (hx:σ.hp x=some (.list l)) (h0:0≤k) (hk:k<l.length) (hz:l.length≤aH) (h:Q () (σ.put x (.list (l.set k.toNat a)))):Dk af w cx (setItem) (.ref x) (.int k) a σ Q E:=by
 rintro s va _ vc r q0 ⟨t,rfl⟩ hv
 rw [show va = .ref x from q0]
 obtain ⟨⟨vs,pl,q⟩,_⟩:=r.ob x _ hx
 have e1:aH=2 ^ 24:=rfl
 refine pV pl h0 (by lia) (by rw [cm,q.length];exact hk) fun h' pl' hs'=>?_
 obtain ⟨r',m'⟩:=r.upd (h':=h') (tk:=s.toks) (ao':=.list (l.set k.toNat a)) hx rfl (fun b o hb e=>(hs'.2 b hb).trans e) fun vm=>⟨vs.set k.toNat vc,by rw [List.setIfInBounds_toArray] at pl';exact pl',(vG _ q hv).mono vm _⟩
 exact ⟨(),_,r',trivial,m',h⟩
theorem oX {value upper:Expr} {p:Pos} (h:bZ af w cx value σ (fun a σ₁=>bZ af w cx upper σ₁ (fun c σ₃=>∃ x l j,a = .ref x∧c = .int j∧σ₃.lst x l∧l.length≤aH ∧
  ∀ z,σ₃.hp z=none→Q (.ref z) (σ₃.put z (.list (l.take (fh l.length j))))) E) E):bZ af w cx (.Subscript value (.Slice none (some upper) none p) pos) σ Q E:=fun s r=>by
 refine Subscript_ (ak (h s r) (fun va s₁ zz=>zz.use fun a σ₁ r₁ v₁ m₁ q₁=>?_) fun ux ux e=>e)
 refine wpAny_Slice ?_
 rw [evalPart_none,evalPart_some]
 refine aB ?_
 refine ak (q₁ s₁ r₁) (fun vc s₃ zz=>?_) fun ux ux e=>e.mono m₁
 obtain ⟨c,σ₃,r₃,v₃,m₃,x,l,j,ha,hc,hl,hz,q₃⟩:=zz
 subst ha hc
 rw [show va = .ref x from v₁]
 obtain ⟨t3,rfl⟩:=v₃
 exact aB (ak (lU (Q:=Q) (E:=E) r₃ hl hz .none (.int j t3) q₃) (fun ux ux p=>p.mono (m₁.trans m₃)) fun ux ux e=>e.mono (m₁.trans m₃))
theorem oW {value lower:Expr} {p:Pos} (h:bZ af w cx value σ (fun a σ₁=>bZ af w cx lower σ₁ (fun c σ₃=>∃ x l j,a = .ref x∧c = .int j∧σ₃.lst x l∧l.length≤aH ∧
  ∀ z,σ₃.hp z=none→Q (.ref z) (σ₃.put z (.list (l.drop (fh l.length j))))) E) E):bZ af w cx (.Subscript value (.Slice (some lower) none none p) pos) σ Q E:=fun s r=>by
 refine Subscript_ (ak (h s r) (fun va s₁ zz=>zz.use fun a σ₁ r₁ v₁ m₁ q₁=>?_) fun ux ux e=>e)
 refine wpAny_Slice ?_
 rw [evalPart_some,evalPart_none]
 refine ak (q₁ s₁ r₁) (fun vc s₃ zz=>?_) fun ux ux e=>e.mono m₁
 obtain ⟨c,σ₃,r₃,v₃,m₃,x,l,j,ha,hc,hl,hz,q₃⟩:=zz
 subst ha hc
 rw [show va = .ref x from v₁]
 obtain ⟨t3,rfl⟩:=v₃
 refine aB (aB (ak (lU (Q:=Q) (E:=E) r₃ hl hz (.int j t3) .none fun z hz'=>?_) (fun ux ux p=>p.mono (m₁.trans m₃)) fun ux ux e=>e.mono (m₁.trans m₃)))
 have e:(l.drop (fh l.length j)).take (l.length - fh l.length j)=l.drop (fh l.length j):=cB (by rw [bp];exact aU _)
 have:=q₃ z hz'
 rw [← e] at this
 exact this
end
noncomputable def iU (vs:List Int) (i:Int):Int:=vs.getD i.toNat 0
noncomputable def xh (vs:List Int) (i:Int):Int:=0 - 2 ^ fe (iU vs i)
noncomputable def upTo (n:Nat):List Int:=(iR n).map fun i:Nat=>(i:Int)
theorem pi {n:Nat} {i:Int}:i∈upTo n↔0≤i∧i<n:=by
 unfold upTo
 rw [bx]
 constructor
 ·rintro ⟨j,hj,rfl⟩
  have:=List.mem_range.mp hj
  lia
 ·rintro ⟨h1,h2⟩
  exact ⟨i.toNat,List.mem_range.mpr (by lia),by lia⟩
theorem iz {n:Nat}:(upTo n).Pairwise (·<·):=by
 unfold upTo
 rw [cq]
 exact List.pairwise_lt_range.imp fun h=>by lia
theorem dC {n:Nat}:(upTo n).length=n:=by unfold upTo;rw [aj,cC]
structure Ord (vs:List Int) (ms:List Int):Prop where
 p:ms.Perm (upTo vs.length)
 s:ms.Pairwise (n6 (xh vs))
noncomputable def sD (vs:List Int) (i:Int):Int×Int:=(xh vs i,i)
theorem Ord.ltP {vs ms:List Int} (h:Ord vs ms):(ms.map (sD vs)).Pairwise fun p q=>nT q p=false:=by
 rw [cq]
 refine h.s.imp fun {i j} hij=>?_
 unfold Mine.nT sD n6 at *
 simp only [decide_eq_false_iff_not]
 lia
theorem Ord.uniq {vs ms ps:List Int} (h:Ord vs ms) (h':Ord vs ps):ms=ps:=by
 have:=nP ((h.p.trans h'.p.symm).map (sD vs)) h.ltP h'.ltP
 have:=congrArg (List.map (·.2)) this
 rw [bn,bn] at this
 have e:((fun x:Int×Int=>x.2) ∘ sD vs)=id:=by funext i;rfl
 rw [e,jZ,jZ] at this
 exact this
theorem Ec {vs:List Int} {ps:List (Int×Int)} (hp:ps.Perm ((upTo vs.length).map (sD vs))) (hs:ps.Pairwise fun p q=>nT q p=false):Ord vs (ps.map (·.2)):=by
 have hm:(ps.map (·.2)).Perm (upTo vs.length):=by
  have:=hp.map (·.2)
  rw [bn] at this
  have e:((fun x:Int×Int=>x.2) ∘ sD vs)=id:=by funext i;rfl
  rw [e,jZ] at this
  exact this
 refine ⟨hm,?_⟩
 rw [cq]
 have nd:ps.Pairwise fun p q=>p.2≠q.2:=by
  have:(ps.map (·.2)).Nodup:=hm.nodup_iff.mpr (iz.imp fun h=>vy h)
  rw [List.nodup_iff_pairwise_ne,cq] at this
  exact this
 refine (hs.and nd).imp_of_mem fun {p q} hp' hq' ⟨h1,h2⟩=>?_
 obtain ⟨i,_,rfl⟩:=bx.mp (hp.mem_iff.mp hp')
 obtain ⟨j,_,rfl⟩:=bx.mp (hp.mem_iff.mp hq')
 unfold nT sD at *
 simp only [decide_eq_false_iff_not] at h1
 unfold n6
 simp only at h2 ⊢
 lia
noncomputable def iY (d:List (Int×Int)) (i:Int):Int:=(du d i).getD 0
noncomputable def ka (vs:List Int) (d:List (Int×Int)):List (Int×Int):=d.map fun p=>(p.2,2 ^ fe (iU vs p.1))
noncomputable def ic (k:Nat) (hd:List (Int×Int)) (vs:List Int) (d:List (Int×Int)):Prop:=
 ∀ m p,d[m]?=some p→∃ (t:BT k) (sp:List (Int×Int)) (i:Nat),hV t sp (hd++ka vs (d.take m))∧cn t∧BA t (fe (iU vs p.1)) p.2 i∧iU vs p.1≤2 ^ k
theorem ic.nil {k:Nat} {hd:List (Int×Int)} {vs:List Int}:ic k hd vs []:=fun m p h=>by simp at h
theorem ic.snoc {k:Nat} {hd d:List (Int×Int)} {vs:List Int} {p:Int×Int} (h:ic k hd vs d) {t:BT k} {sp:List (Int×Int)} {i:Nat} (R:hV t sp (hd++ka vs d)) (c:cn t) (b:BA t (fe (iU vs p.1)) p.2 i) (hv:iU vs p.1≤2 ^ k):ic k hd vs (d++[p]):=by
 intro m q hq
 rcases dE m d.length with hm|hm
 ·rw [fO hm] at hq
  rw [List.take_append_of_le_length (b7 hm)]
  exact h m q hq
 ·rw [dg hm] at hq
  have:m - d.length=0:=by
   have:=(aF.mp hq).1
   rw [bB] at this
   lia
  rw [this] at hq
  cases hq
  rw [show m=d.length by lia,List.take_append_of_le_length (aU _),fm]
  exact ⟨t,sp,i,R,c,b,hv⟩
theorem mM {vs:List Int} {d:List (Int×Int)} {p:Int×Int}:ka vs (d++[p])=ka vs d++[(p.2,2 ^ fe (iU vs p.1))]:=by unfold ka;rw [bu];rfl
theorem xp {k:Nat} {t t':BT k} {sp sp' hd hd':List (Int×Int)} (R:hV t sp hd) (R':hV t' sp' hd') (c:cn t) (c':cn t') (p:hd.Perm hd'):t=t':=
 C5 t (a:=0) c c' fun q=>by rw [← R.hd.mem_iff,← R'.hd.mem_iff];exact p.mem_iff
theorem yi {d:List (Int×Int)} {o x i:Int} (h:∀ u,(o,u)∉d):iY (d++[(o,x)]) i=if i=o then x else iY d i:=by
 unfold iY du
 rw [List.find?_append]
 by_cases q:i=o
 ·subst q
  have:d.find? (fun p=>decide (p.1=i))=none:=by
   rw [Fg]
   intro p hp e
   have:p.1=i:=by simpa using e
   exact h p.2 (by rw [← this];exact hp)
  rw [this,if_pos rfl]
  simp
 ·rw [if_neg q]
  cases e:d.find? (fun p=>decide (p.1=i)) with
  |some p=>simp
  |none =>
   have:¬ o=i:=fun z=>q z.symm
   simp [this]
theorem Cg {n:Nat} {d:List (Int×Int)} {o x:Int} (h:∀ u,(o,u)∉d) (h0:0≤o):((upTo n).map fun i=>AV.int (iY d i)).set o.toNat (.int x)=(upTo n).map fun i=>AV.int (iY (d++[(o,x)]) i):=by
 apply kW
 intro m
 rw [List.getElem?_set,aR,aR]
 unfold upTo
 simp only [aR,aj,cC]
 by_cases hm:m<n
 ·rw [om hm]
  simp only [Option.map_some,yi h]
  by_cases q:o.toNat=m
  ·rw [if_pos q,if_pos (by lia),if_pos (by lia)]
  ·rw [if_neg q,if_neg (by lia)]
 ·rw [ek (by simpa using hm)]
  simp only [Option.map_none]
  by_cases q:o.toNat=m
  ·rw [if_pos q,if_neg (by lia)]
  ·rw [if_neg q]
theorem y6 {vs ms:List Int} {d:List (Int×Int)} (h:Ord vs ms) (hd:d.map (·.1)=ms):((upTo vs.length).map fun i=>(iY d i,(2:Int) ^ fe (iU vs i))).Perm (ka vs d):=by
 have nd:gE d:=by
  unfold gE
  rw [hd]
  exact h.p.nodup_iff.mpr (iz.imp fun h=>vy h)
 have e:ka vs d=ms.map fun i=>(iY d i,(2:Int) ^ fe (iU vs i)):=by
  rw [← hd,bn]
  unfold ka
  refine jc fun p hp=>?_
  show (p.2,_)=(iY d p.1,_)
  have:du d p.1=some p.2:=(cH nd).mpr hp
  unfold iY
  rw [this]
  rfl
 rw [e]
 exact (h.p.symm.map _)
section
variable {K:Frag} {cx:CX} {sc:Scope} {n:Nat} {σ σ':AS} {Q:AV→AS→Prop} {QB:Bool→AS→Prop} {QF:AF→AS→Prop} {E:Value→AS→Prop} {pos:Pos}
theorem xC {h:Heap} {n:Nat} {acc:Array Value} (hi:ItemsOf (fun i v=>∃ t,v = .int (0+i * 1) t) acc n):iM h ((upTo n).map AV.int) acc.toList:=by
 have key:∀ (l:List Value) (k:Nat) (m:Nat),l.length=m→(∀ (j:Nat) (v:Value),l[j]?=some v→∃ t,v = .int ((k+j:Nat):Int) t)→iM h (((List.range' k m).map fun i:Nat=>(i:Int)).map AV.int) l:=by
  intro l
  induction l with
  |nil=>intro k m hm _;rw [← hm];rfl
  |cons v l ih =>
   intro k m hm hv
   obtain ⟨m,rfl⟩:∃ m',m=m'+1:=⟨l.length,by rw [← hm,bj]⟩
   rw [List.range'_succ,aM,aM]
   obtain ⟨t,rfl⟩:=hv 0 v rfl
   refine ⟨_,l,rfl,cQ,ih (k+1) m (by simpa using hm) fun j v e=>?_⟩
   obtain ⟨t,rfl⟩:=hv (j+1) v e
   exact ⟨t,by congr 1;lia⟩
 unfold upTo
 rw [List.range_eq_range']
 refine key _ 0 n (by rw [aD];exact hi.1) fun j v e=>?_
 obtain ⟨t,rfl⟩:=hi.2 j v (by rw [← bG];exact e)
 exact ⟨t,by congr 1;lia⟩
theorem p0 (hh:cx.A.handled=none) {x:Addr} {b:Nat} (hx:σ.hp x=some (.range 0 b 1)) (hb:b≤2 ^ 20) (h:∀ y,σ.hp y=none→Q (.ref y) (σ.put y (.list ((upTo b).map AV.int)))):gd af w cx (.type "list") [.ref x] σ Q E:=fun s vs r hv=>by
 obtain ⟨va,rfl,p⟩:=ke hv
 rw [show va = .ref x from p]
 obtain ⟨⟨t,u,v,hr⟩,_⟩:=r.ob x _ hx
 refine call_list_range (n:=b) hh hr (small_one (by decide) (by decide) (by lia) (by lia)) (by rw [rangeSize_one (by lia)];lia) (by lia) fun h' tk acc c k hl hi=>?_
 have vm:=VM.of_keeps k
 exact ⟨.ref _,_,r.new (tk:=tk) (ao:=.list ((upTo b).map AV.int)) (cE _) k ⟨acc.toList,⟨c,by simpa using hl⟩,xC hi⟩,di,vm,h _ (gq r)⟩
noncomputable def ordF (vs:List Int):AV→AV
 | .int i=>eC (sD vs i)
 |v=>v
theorem Az {vs:List Int} {n:Nat}:(((iR n).map fun i:Nat=>AV.int i).filter fun ux=>true).map (ordF vs)=((upTo n).map (sD vs)).map eC:=by
 rw [bS.mpr (fun ux ux=>rfl)]
 unfold upTo
 rw [bn,bn,bn]
 rfl
theorem vF {vs:List Int} {i:Int} (h0:0≤i) (h1:i<vs.length):vs[i.toNat]?=some (iU vs i):=by
 unfold iU
 rw [List.getD_eq_getElem?_getD,aO (by lia)]
 rfl
theorem mo {vs:List Int} {i:Int} (h0:0≤i) (h1:i<vs.length):iU vs i∈vs:=aE (vF h0 h1)
theorem jg {value slice:Expr} {x:Addr} {vs:List Int} {i:Int} (hl:σ.lst x (vs.map AV.int)) (h0:0≤i) (h1:i<vs.length) (hz:vs.length≤2 ^ 20) (h:Q (.int (iU vs i)) σ) (hs:∀ o i,eA slice false o i=mF [o,i] (lC o i)):de af w cx (cO value slice) (.ref x) (.int i) σ Q E:=by
 refine gH hl h0 (by lia) (a:=.int (iU vs i)) ?_ h hs
 rw [aR,vF h0 h1]
 rfl
theorem ya {vs:List Int}:((vs.map AV.int).filter fun ux=>true).map (fun ux=>AV.int 0)=(upTo vs.length).map fun i=>AV.int (iY [] i):=by
 rw [bS.mpr (fun ux ux=>rfl),bn]
 have:∀ i,iY [] i=0:=fun i=>rfl
 simp only [this]
 apply kW
 intro m
 rw [aR,aR]
 by_cases hm:m<vs.length
 ·rw [aO hm,aO (by rw [dC];exact hm)]
  rfl
 ·rw [ek (by lia),ek (by rw [dC];lia)]
  rfl
theorem oN {vs ms:List Int} {d:List (Int×Int)} {i:Nat} {m:Int} (ho:Ord vs ms) (hd:d.map (·.1)=ms.take i) (hm:ms[i]?=some m):0≤m∧m<vs.length∧∀ x,(m,x)∉d:=by
 have h1:=pi.mp (ho.p.mem_iff.mp (aE hm))
 refine ⟨h1.1,h1.2,fun x hx=>?_⟩
 have nd:ms.Nodup:=ho.p.nodup_iff.mpr (iz.imp fun h=>vy h)
 have:=List.mem_map_of_mem (f:=(·.1)) hx
 rw [hd] at this
 exact pg nd hm this
theorem yu (g:Fx af K cx sc (n+1)) {f:Addr} {sc':Scope} {body:List Stmt} {ps:List Str} {l:List AV} (F:Fn K f sc' body ps) (hlen:ps.length=l.length)
  (h:∀ cx',Fx af K cx' sc' n→(∀ v q,jq K f=some (v,q)→cx'.env.code=v∧cx'.env.qual=q++".<locals>.")→cf af w cx' body (σ.enter ps l) (Fj Q σ.loc) (yE E σ.loc)):gd af w cx (.ref f) l σ Q E:=
 gd.forget ((A1 g.ok F hlen fun cx' ok fe hh hc=>(h cx' ⟨ok,fe,hh.trans g.hh⟩ hc).imp (fun fl σ₂ ⟨a,b,c⟩=>⟨a,b,c⟩) fun C σ₂ ⟨a,b,c⟩=>⟨a,b,c⟩).cl)
theorem Ok.in2 (ok:Ok af K cx sc (n+1)):Ok af K { cx with A:=cx.A.in1.in1 } sc n:=
 ⟨ok.1,ok.2,ok.3,ok.4,ok.5,ok.6,ok.7,ok.8,ok.9,ok.10,ok.11,ok.12,by have:=ok.depth;show cx.A.depth+4 * n+140<_;lia,by have:=ok.units;show cx.A.units+1+1+16 * n+200<_;lia,ok.15,ok.16,ok.17⟩
noncomputable def AS.But3 (σ:AS) (P S H:Addr) (σ':AS):Prop:=∀ a o,a≠P→a≠S→a≠H→σ.hp a=some o→σ'.hp a=some o
noncomputable def plcF (d:List (Int×Int)):AV→AV
 | .int i=> .int (iY d i)
 |v=>v
theorem Ay {d:List (Int×Int)} {n:Nat}:(((iR n).map fun i:Nat=>AV.int i).filter fun ux=>true).map (plcF d)=(upTo n).map fun i=>AV.int (iY d i):=by
 rw [bS.mpr (fun ux ux=>rfl)]
 unfold upTo
 rw [bn,bn]
 rfl
theorem y4 {vs:List Int} {d:List (Int×Int)} (ho:Ord vs (d.map (·.1))) {i:Int} (h0:0≤i) (h1:i<vs.length):du d i=some (iY d i):=by
 have hm:i∈d.map (·.1):=ho.p.mem_iff.mpr (pi.mpr ⟨h0,h1⟩)
 obtain ⟨p,hp,rfl⟩:=bx.mp hm
 have nd:gE d:=ho.p.nodup_iff.mpr (iz.imp fun h=>vy h)
 have:du d p.1=some p.2:=(cH nd).mpr hp
 unfold iY
 rw [this]
 rfl
theorem Yd.butP {y:Addr} {k:Nat} {C dx S H:Addr} {sp hd:List (Int×Int)} {t:BT k} {P:Addr} {T:aV→World→Heap→Addr→Obj→Prop} (h:Yd K σ y k t C dx S H sp hd) (hP:σ.hp P=some (.any T)) (s:∀ a o,a≠P→σ.hp a=some o→σ'.hp a=some o):Yd K σ' y k t C dx S H sp hd:=
 ⟨⟨h.is.cls,s _ _ (be h.is.y hP (by intro q;cases q)) h.is.y,s _ _ (be h.is.dx hP (by intro q;cases q)) h.is.dx⟩,s _ _ (be h.sS hP (by intro q;cases q)) h.sS,s _ _ (be h.sH hP (by intro q;cases q)) h.sH,h.ne,h.rep,h.cn,h.k60,h.len⟩
theorem C4 {f:Addr} {sc:Scope} {body:List Stmt} {oc:Value} {od:Option Addr} {osl:Array (Option Value)} {name qual:Str} {params:BC} {dV kV doc pm cdv ct:Value} {an:Option Addr}
  (hlk:K.lookup f=some ⟨oc,od,.func (fnOf name qual params body sc dV kV doc pm an cdv ct),osl⟩):jq K f=some (cdv,qual):=by unfold jq;rw [hlk]
theorem Yd.putG {y:Addr} {k:Nat} {C dx S H G:Addr} {sp hd d0 d1:List (Int×Int)} {t:BT k} (h:Yd K σ y k t C dx S H sp hd) (hG:σ.hp G=some (.dict d0)) (nS:G≠S) (nH:G≠H):Yd K (σ.put G (.dict d1)) y k t C dx S H sp hd:=
 ⟨⟨h.is.cls,bH (be h.is.y hG (by intro q;cases q)) h.is.y,bH (be h.is.dx hG (by intro q;cases q)) h.is.dx⟩,bH (bl nS) h.sS,bH (bl nH) h.sH,h.ne,h.rep,h.cn,h.k60,h.len⟩
theorem GA.putG {P G:Addr} {qual:Str} {d0:List (Int×Int)} {o:AO} (h:GA P pos qual σ) (hG:σ.hp G=some (.dict d0)):GA P pos qual (σ.put G o):=by
 cases h with
 |fresh h=>exact .fresh (bH (be h hG (by intro q;cases q)) h)
 |made c' oc vs t h hc hd hv=>exact .made c' oc vs t (bH (be h hG (by intro q;cases q)) h) (bH (be hc hG (by intro q;cases q)) hc) hd hv
theorem gc (ok:Ok af K cx sc n) {x y:Addr} {ns:List Int} (hx:σ.lst x (ns.map AV.int)) (hy:σ.lst y (ns.map AV.int)) (h:Q (.bool false) σ):de af w cx (bL .NotEq) (.ref x) (.ref y) σ Q E:=by
 have hd:∀ ns:List Int,dA (ns.map AV.int)=some (ns.map oB):=fun ns=>by
  induction ns with
  |nil=>simp [dA]
  |cons a l ih=>rw [aM,aM];unfold dA;rw [ih];simp [dataOf]
 have hc:∀ ns:List Int,bV (ns.map oB)=true:=fun ns=>by
  induction ns with
  |nil=>simp [bV]
  |cons a l ih=>rw [aM];simp [bV,hW,ih]
 have he:∀ ns:List Int,da (ns.map oB) (ns.map oB)=true:=fun ns=>by
  induction ns with
  |nil=>simp [da]
  |cons a l ih=>rw [aM];simp [da,jw,ih]
 have hdp:∀ ns:List Int,fj (ns.map oB)≤1:=fun ns=>by
  induction ns with
  |nil=>simp [fj]
  |cons a l ih=>rw [aM];simp only [fj,mZ];lia
 refine jS ok hx hy (hd ns) (hd ns) (hc ns) (hc ns) (by have:=hdp ns;simp only [mZ];lia) ?_
 rw [he]
 exact h
theorem vL {value slice:Expr} {x:Addr} {d:List (Int×Int)} {n:Nat} {i:Int} (hl:σ.lst x ((upTo n).map fun i=>AV.int (iY d i))) (h0:0≤i) (h1:i<n) (hz:n≤2 ^ 20) (h:Q (.int (iY d i)) σ) (hs:∀ o i,eA slice false o i=mF [o,i] (lC o i)):de af w cx (cO value slice) (.ref x) (.int i) σ Q E:=by
 refine gH hl h0 (by lia) (a:=.int (iY d i)) ?_ h hs
 unfold upTo
 rw [aR,aR,om (by lia)]
 show some (AV.int (iY d ((i.toNat:Nat):Int)))=_
 rw [show ((i.toNat:Nat):Int)=i by lia]
inductive L9 (K:Frag) (P:Addr) (ps:Pos) (qu:Str) (k:Nat) (C y dx S H sx:Addr) (ns:List Int) (M:Nat) (σ:AS):Prop
 |mk (g:LG K k C y dx S H sx ns M σ) (ga:GA P ps qu σ):L9 K P ps qu k C y dx S H sx ns M σ
theorem L9.sub {P:Addr} {ps:Pos} {qu:Str} {k C y dx S H sx ns M} (h:L9 K P ps qu k C y dx S H sx ns M σ) (s:σ.Sub σ') (l:σ'.loc=σ.loc):L9 K P ps qu k C y dx S H sx ns M σ':=let ⟨g,ga⟩:=h;⟨g.sub s l,ga.sub s⟩
theorem LG.mono {k C y dx S H sx ns M M'} (h:LG K k C y dx S H sx ns M σ) (hM:M≤M'):LG K k C y dx S H sx ns M' σ:=
 let ⟨z,t,sp,hd,hs,hY,hz,hp,hl,lc,ly,lh,ls,fs⟩:=h
 ⟨z,t,sp,hd,hs,hY,hz,hp,aI hl hM,lc,ly,lh,ls,fs⟩
end
theorem uS {h:Heap} {tabs:List (Addr×Addr)} (hT:TabsAt tabs h) (x:h.NoSeer):(ghostOf h tabs).NoSeer where
 statics:=let ⟨mc,a,b⟩:=x.statics;⟨mc,ghost_ns hT a,b⟩
 mods:=let ⟨mc,a,b⟩:=x.mods;⟨mc,ghost_ns hT a,b⟩
 imp:=let ⟨mc,a,b⟩:=x.imp;⟨mc,ghost_ns hT a,b⟩
 main:=let ⟨mg,bm,ob,a,b,c,d,e⟩:=x.main;⟨mg,bm,ob,ghost_ns hT a,b,ghost_get hT c (fun q=>by rw [q] at d;cases d),d,e⟩
theorem x7 {af:aV} {K:Frag} {tabs:List (Addr×Addr)} {p:aV} {loose:List Str} {mean:ExcName→Option Value} {mg mb:Str→Option Value} {h:Heap} (hT:TabsAt tabs h) (T:Top p loose mean mg mb h) (KX:K.In h) (hK:noTabs K=true) (hi:importsNone p=true) (ht:af.given.tree=none):Glo af K (ghostOf h tabs):=
 have T':=ghost_top hT T
 ⟨ghost_K hT KX hK,⟨mg,T'.g⟩,⟨mb,T'.b,T'.builtins⟩,T'.nolimit,uS hT (T.seer hi),ht,⟨_,_,mg,mb,topRead_of T'⟩,⟨mg,T'.g,T'.bmain⟩⟩
section
open PySem PySem.W PyProof.Rows PySem.Calls PySem.Builtin PySem.Builtin.Str
set_option autoImplicit false
set_option linter.unusedVariables false
end
open PySem PySem.W PyProof.Rows PySem.Calls PySem.NumText
theorem rv {n:Nat} {j:Int} (h0:0≤j) (h1:j≤n):fh n j=j.toNat:=by
 have h:=clipAt_cast n j
 rw [if_neg (by lia)] at h
 lia
set_option tactic.hygienic true
set_option tactic.hygienic false
set_option tactic.hygienic true
set_option maxRecDepth 100000
noncomputable def HS (A:dM) (h:Heap):Prop:=∀ v,A.handled=some v→∃ e o vs,v = .ref e∧h.get? e=some o∧o.data = .fields vs∧vs[2]?=some .none
theorem HS.keeps {A:dM} {h h':Heap} (x:HS A h) (k:∀ b o,h.get? b=some o→h'.get? b=some o):HS A h':=fun v q =>
 let ⟨e,o,vs,a,b,c,d⟩:=x v q;⟨e,o,vs,a,k e o b,c,d⟩
theorem HS.but {A:dM} {h h':Heap} {I:Addr} {oI:Obj} {xs:Array Value} (x:HS A h) (hI:h.get? I=some oI) (hd:oI.data = .fields xs) (h2:xs[2]?≠some .none) (k:∀ b o,b≠I→h.get? b=some o→h'.get? b=some o):HS A h':=fun v q=>by
 obtain ⟨e,o,vs,a,b,c,d⟩:=x v q
 refine ⟨e,o,vs,a,k e o (fun z=>?_) b,c,d⟩
 subst z;rw [hI] at b;cases b;rw [hd] at c;cases c;exact h2 d
section
variable {A:dM} {E:Value→az→Prop} {s:az}
theorem pY:entryFor table "proto.unchain"=some Builtin.«proto.unchain»:=entryFor_of_tree (by kernel_rfl)
theorem si {α:Type} {e:Addr} {oe:Obj} {ves:Array Value} {Q:α→az→Prop} (hs:HS A s.heap) (he:s.heap.get? e=some oe) (hd:oe.data = .fields ves) (h2:2<ves.size)
  (k:∀ h' vs',(∀ b,b≠e→h'.get? b=s.heap.get? b)→h'.get? e=some { oe with data:=.fields vs' }→(∀ i,i≠2→vs'[i]?=ves[i]?)→(A.handled=none→vs'=ves)→E (.ref e) { s with heap:=h' }):wpAny (model af w) A (raiseNew (.ref e):Sem α) Q E s:=by
 unfold raiseNew
 refine ag (wpAny_handled ?_)
 have id0:E (.ref e) { s with heap:=s.heap }:=k s.heap ves (fun ux ux=>rfl) (by rw [he];obtain ⟨a,b,c,d⟩:=oe;dsimp only at hd;subst hd;rfl) (fun ux ux=>rfl) fun ux=>rfl
 cases q:A.handled with
 |none=>first|exact wpAny_throw id0|exact ag (aB (wpAny_throw id0))
 |some v =>
  obtain ⟨h,o,vs,rfl,h1,hd1,h3⟩:=hs v q
  dsimp only
  refine wpAny_ite_split (fun _=>?_) (fun _=>?_)
  ·refine ag (dq (wpAny_runValue (iI pY ?_)))
   unfold Builtin.«proto.unchain»
   dsimp only
   refine ag (gj h1 hd1 h3 ?_)
   rw [if_pos (by rfl)]
   refine ag (aB (aB ?_))
   show wpAny _ _ (setField (.ref e) 2 (.ref h) >>= fun ux=>throw (.ref e)) _ _ _
   refine ag (g6 he hd h2 (wpAny_throw (k _ (ves.setIfInBounds 2 (.ref h)) (fun b hb=>aP _ _ (bl hb)) ?_ (fun i hi=>ef (bl hi)) fun z=>by rw [q] at z;cases z)))
   obtain ⟨c,d,dt,sl⟩:=oe
   dsimp only at hd
   subst hd
   exact cg _ he rfl
  ·exact wpAny_throw id0
theorem qU {α:Type} {Q:α→az→Prop} (hs:HS A s.heap) (k:∀ h' e o,(∀ b o,s.heap.get? b=some o→h'.get? b=some o)→h'.get? e=some o→o.cls = .type "StopIteration"→E (.ref e) { s with heap:=h' }) :
  wpAny (model af w) A (newExc (.type "StopIteration") [] >>= fun e=>(raiseNew e:Sem α)) Q E s:=by
 refine ag ?_
 simp only [newExc,newTuple]
 refine ag (iX ?_ (by size_fits))
 refine ag (m:=firstArgMember _ _) (oV (a:=ae) (by first|rfl|(simp only [firstArgMember];rfl)) ?_)
 refine iX ?_ (by size_fits)
 refine si (hs.keeps fun b o e=>aq _ (aq _ e)) (aS _ rfl) rfl (am rfl) fun h' vs' k1 k2 ux ux=>k h' _ _ (fun b o e=>?_) k2 rfl
 have e':=aq { cls:=.type "StopIteration",data:=.fields (#[.ref s.heap.objs.size,.none,.none,.none,.bool false,.none]++ownMembersOf (.type "StopIteration") []) } (aq { cls:=.type "tuple",data:=.seq ([]:List Value).toArray } e)
 exact (k1 b (cw (bq (aq { cls:=.type "tuple",data:=.seq ([]:List Value).toArray } e)))).trans e'
theorem yU {h':Heap} {Q:Option Value→az→Prop} {e:Addr} {o:Obj} (he:h'.get? e=some o) (hc:o.cls = .type "StopIteration") (hQ:Q none { s with heap:=h' }) :
  wpAny (model af w) A (do if ← isInstance (.ref e) (.type "StopIteration") then pure none else throw (.ref e)) Q E { s with heap:=h' }:=
 ag (wpAny_isInstance (T:="StopIteration") (b:=true) ⟨_,he,hc⟩ isSubtype_stop (aB hQ))
theorem zd {it l:Addr} {i:Nat} {items:Array Value} {Q:Option Value→az→Prop} (hs:HS A s.heap) (hit:s.heap.IsListIter it l i) (hl:s.heap.IsList l items) (hx:items[i]?=none)
  (hQ:∀ h',(∀ b o,b≠it→s.heap.get? b=some o→h'.get? b=some o)→Q none { s with heap:=h' }):wpAny (model af w) A (oA (.ref it)) Q E s:=by
 obtain ⟨o,ho,hc,hd⟩:=id hit
 obtain ⟨ol,hol,_,nl,hdl⟩:=hl
 unfold oA
 refine ag (oG (lH (name:=aa "__next__") hit.typeIs slot_listiter_next (ou slot_listiter_next hit.typeIs entry_listiter_next ?_ (args_listiter_next _))))
 show wpAny _ _ (field (.ref it) 0 >>= _) _ _ s
 refine ag (gj ho hd (x:=.ref l) rfl ?_)
 rw [if_neg (show ¬ ((aZ l == ae)=true) from jX)]
 refine ag (gj ho hd (x:=.int i 0) rfl ?_)
 refine ag (fT hol hdl ?_)
 simp only [fX,hx]
 refine ag (rW (ag (g6 ho hd (by simp) ?_)))
 have k:∀ b o',b≠it→s.heap.get? b=some o'→(s.heap.update it (gC (·.setIfInBounds 0 ae))).get? b=some o':=fun b o' hb e=>(aP _ _ (bl hb)).trans e
 refine qU (A:=A.in1) (HS.but (A:=A) hs ho hd (by simp) k) fun h' e oe k' he hce=>?_
 exact yU he hce (hQ h' fun b o' hb q=>k' b o' (k b o' hb q))
theorem xo {it l:Addr} {i:Nat} {items:Array Value} {Q:Option Value→az→Prop} (hs:HS A s.heap) (hit:s.heap.IsTupleIter it l i) (hl:s.heap.IsTuple l items) (hx:items[i]?=none)
  (hQ:∀ h',(∀ b o,b≠it→s.heap.get? b=some o→h'.get? b=some o)→Q none { s with heap:=h' }):wpAny (model af w) A (oA (.ref it)) Q E s:=by
 obtain ⟨o,ho,hc,hd⟩:=id hit
 obtain ⟨ol,hol,_,nl,hdl⟩:=hl
 unfold oA
 refine ag (oG (lH (name:=aa "__next__") hit.typeIs PySem.F.slot_tuple_iterator_next (ou PySem.F.slot_tuple_iterator_next hit.typeIs PySem.F.entry_tuple_iterator_next ?_ (PySem.F.args_tuple_iterator_next_1 _))))
 show wpAny _ _ (field (.ref it) 0 >>= _) _ _ s
 refine ag (gj ho hd (x:=.ref l) rfl ?_)
 rw [if_neg (show ¬ ((aZ l == ae)=true) from jX)]
 refine ag (gj ho hd (x:=.int i 0) rfl ?_)
 refine ag (fT hol hdl ?_)
 simp only [fX,hx]
 refine ag (rW (ag (g6 ho hd (by simp) ?_)))
 have k:∀ b o',b≠it→s.heap.get? b=some o'→(s.heap.update it (gC (·.setIfInBounds 0 ae))).get? b=some o':=fun b o' hb e=>(aP _ _ (bl hb)).trans e
 refine qU (A:=A.in1) (HS.but (A:=A) hs ho hd (by simp) k) fun h' e oe k' he hce=>?_
 exact yU he hce (hQ h' fun b o' hb q=>k' b o' (k b o' hb q))
theorem zk {K:Type} [DecidableEq K] {knd:KeyKind af w K} {it d:Addr} {i ep:Nat} {kvs:List (K×Value)} {Q:Option Value→az→Prop} (hs:HS A s.heap) (hit:s.heap.IsKeyIter it d i kvs.length ep) (hm:s.heap.DictAt knd d kvs ep) (hx:kvs[i]?=none)
  (hQ:∀ h',(∀ b o,b≠it→s.heap.get? b=some o→h'.get? b=some o)→Q none { s with heap:=h' }):wpAny (model af w) A (oA (.ref it)) Q E s:=by
 obtain ⟨o,ho,hc,hd⟩:=id hit
 obtain ⟨od,es,hod,hcd,hdd,hk,hp,hn⟩:=id hm
 unfold oA
 refine ag (oG (lH (name:=aa "__next__") hit.typeIs PySem.F.slot_dict_keyiterator_next (ou PySem.F.slot_dict_keyiterator_next hit.typeIs PySem.F.entry_dict_keyiterator_next ?_ (PySem.F.args_dict_keyiterator_next_1 _))))
 refine ag (aB (ag (ag ?_)))
 refine ag (wpAny_typeNameOfWhole_keyiter hit.typeIs (aB ?_))
 refine ag (wpAny_fieldsOf ho hd ?_)
 have hown:Builtin.Dict_items.ownsTuple "dict_keyiterator"=false:=by decide
 simp only [hown,bQ,if_false]
 show wpAny _ _ (if (aZ d == ae)=true then _ else _) _ _ s
 rw [if_neg (show ¬ ((aZ d == ae)=true) from jX)]
 refine ag (aB (ag (wpAny_dictEntries hod hdd ?_)))
 have hsz:es.size=kvs.length:=by rw [← hp.length];simp
 rw [if_neg (by rw [hsz];simp)]
 refine ag (aB (ag (wpAny_dictEpoch hod hdd ?_)))
 rw [if_neg (by simp)]
 refine aB ?_
 have hge:es.size≤i:=by rw [hsz];simpa using hx
 simp only [show ¬ ((i:Int)<0) from by lia,if_false,fX,Array.getElem?_eq_none hge]
 refine ag (ag (wpAny_typeNameOfWhole_keyiter hit.typeIs (aB ?_)))
 show wpAny _ _ (setField (.ref it) 0 .none >>= _) _ _ s
 refine ag (g6 ho hd (by simp) ?_)
 have k:∀ b o',b≠it→s.heap.get? b=some o'→(s.heap.update it (gC (·.setIfInBounds 0 ae))).get? b=some o':=fun b o' hb e=>(aP _ _ (bl hb)).trans e
 refine qU (A:=A.in1) (HS.but (A:=A) hs ho hd (by simp) k) fun h' e oe k' he hce=>?_
 exact yU he hce (hQ h' fun b o' hb q=>k' b o' (k b o' hb q))
noncomputable def EB (A:dM):List Addr:=match A.handled with|some (.ref e)=>[e]|_=>[]
theorem HS.frame {h h':Heap} (x:HS A h) (k:∀ b∈EB A,∀ o,h.get? b=some o→h'.get? b=some o):HS A h':=fun v q=>by
 obtain ⟨e,o,vs,rfl,b,c,d⟩:=x v q
 exact ⟨e,o,vs,rfl,k e (by unfold EB;rw [q];exact .head _) o b,c,d⟩
theorem At {h:Heap} (x:HS A h) {b:Addr} (hb:b∈EB A):∃ o vs,h.get? b=some o∧o.data = .fields vs∧vs[2]?=some .none:=by
 unfold EB at hb
 split at hb
 ·rename_i e q
  obtain ⟨e',o,vs,hv,h1,h2,h3⟩:=x _ q
  cases hv
  obtain rfl:=aC.mp hb
  exact ⟨o,vs,h1,h2,h3⟩
 ·cases hb
theorem ug {K:Type} [DecidableEq K] {knd:KeyKind af w K} (I d:Addr) (hne:d≠I) (kvs:List (K×Value)) (ep:Nat) :
  Walks af w A I (I::d::EB A) [I] kvs.length (fun i v=>∃ k x,kvs[i]?=some (k,x)∧knd.is k v=true) (fun i h=>h.IsKeyIter I d i kvs.length ep∧h.DictAt knd d kvs ep∧HS A h) where
 sub:=fun b hb=>by rw [aC.mp hb];exact .head _
 frame:=fun ux ux ux st hk=>⟨st.1.at fun o e=>hk I (.head _) o e,st.2.1.at' fun o e=>hk d (.tail _ (.head _)) o e,st.2.2.frame fun b hb=>hk b (.tail _ (.tail _ hb))⟩
 item:=fun i s Q E hi st hQ=>by
  obtain ⟨⟨k,x⟩,hx⟩:∃ p,kvs[i]?=some p:=⟨kvs[i],by simp [hi]⟩
  refine wpAny_pyNext_dict_item st.1 st.2.1 hx fun key h' hkey hit' hs'=>?_
  obtain ⟨o,ho,_,hd⟩:=id st.1
  exact hQ key h' s.toks ⟨k,x,hx,hkey⟩ ⟨hit',st.2.1.extBut hs'.extBut hne,st.2.2.but ho hd (by simp) fun b o hb e=>hs'.extBut b o hb e⟩ fun b o hb e=>hs'.extBut b o (fun h=>hb (by simp [h])) e
 done:=fun s Q E st hQ=>zk st.2.2 st.1 st.2.1 (by simp) fun h' he'=>hQ h' s.toks fun b o hb e=>he' b o (fun h=>hb (by simp [h])) e
 self:=fun ux ux ux ux st hQ=>wpAny_pyIter_keyiter st.1 hQ
theorem xg (I ax:Addr) (hne:ax≠I) (items:Array Value) :
  Walks af w A I (I::ax::EB A) [I] items.size (fun i v=>items[i]?=some v) (fun i h=>h.IsTupleIter I ax i∧h.IsTuple ax items∧HS A h) where
 sub:=fun b hb=>by rw [aC.mp hb];exact .head _
 frame:=fun ux ux ux st hk=>⟨st.1.at fun o e=>hk I (.head _) o e,st.2.1.at fun o e=>hk ax (.tail _ (.head _)) o e,st.2.2.frame fun b hb=>hk b (.tail _ (.tail _ hb))⟩
 item:=fun i s Q E hi st hQ=>by
  refine wpAny_pyNext_tuple_item st.1 st.2.1 (x:=items[i]) (by simp [hi]) fun h' hit' hs'=>?_
  obtain ⟨o,ho,_,hd⟩:=id st.1
  exact hQ _ h' s.toks (by simp [hi]) ⟨hit',st.2.1.extBut hs'.extBut hne,st.2.2.but ho hd (by simp) fun b o hb e=>hs'.extBut b o hb e⟩ fun b o hb e=>hs'.extBut b o (fun h=>hb (by simp [h])) e
 done:=fun s Q E st hQ=>xo st.2.2 st.1 st.2.1 (by simp) fun h' he'=>hQ h' s.toks fun b o hb e=>he' b o (fun h=>hb (by simp [h])) e
 self:=fun ux ux ux ux st hQ=>wpAny_pyIter_tupleiter st.1 hQ
theorem ta {K:Type} [DecidableEq K] {knd:KeyKind af w K} {d:Addr} {ep:Nat} {kvs:List (K×Value)} {RR:Result→az→Prop} (hs:HS A s.heap) (lo:(d == sysModules)=false) (hm:s.heap.DictAt knd d kvs ep) (S:Addr) (res:Value) (c₀:Nat) (hS:s.heap.get? S=some { cls:=.type "list",data:=.seq #[] c₀ })
  (hSd:S≠d) (hn:kvs.length≤aH) (hR:∀ h' tk acc' c',(∀ b o,b≠S→s.heap.get? b=some o→h'.get? b=some o)→h'.get? S=some { cls:=.type "list",dict:=none,data:=.seq acc' c',slots:=#[] } →
   ItemsOf (fun i v=>∃ k x,kvs[i]?=some (k,x)∧knd.is k v=true) acc' kvs.length→RR (.ok (.ret res)) { s with heap:=h',toks:=tk }) :
  wpAny (model af w) A.in1 (i5 (.ref S) (.ref d) res)
   (fun fin s'=>match fin with | .done f=>RR (.ok f) s' | .again c'=>c'.quiet=true∧rn (model af w) A c' RR s') (fun e s'=>RR (.error e) s') s:=by
 unfold i5
 refine ag (wpAny_typeOf (T:="dict") hm.dictOf.typeIs ?_)
 have h1:Builtin.List.listSameRef (.ref S) (.ref d)=false:=by simp [Builtin.List.listSameRef,hSd]
 have h2:(bz "dict" == bz "list")=false:=by decide
 have h3:(bz "dict" == bz "tuple")=false:=by decide
 simp only [h1,h2,h3,Bool.or_false,bQ,if_false]
 refine ag (wpAny_pyIter_dict lo hm ?_)
 refine ag (dq (kdl_hint_dict (hm.push _).dictOf.typeIs ?_))
 have k0:∀ b o,s.heap.get? b=some o→(s.heap.push { cls:=.type "dict_keyiterator",data:=.fields #[.ref d,.int 0 0,.int kvs.length 0,.int ep 0] }).get? b=some o:=fun b o e=>aq _ e
 have hSf:S∉s.heap.objs.size::d::EB A:=fun hmem=>by
  rcases aQ.mp hmem with e|hmem
  ·exact cw (bq hS) e
  rcases aQ.mp hmem with e|hmem
  ·exact hSd e
  ·obtain ⟨o,vs,g1,g2,_⟩:=At hs hmem
   rw [hS] at g1;cases g1;cases g2
 refine wpAny_ite_split (fun _=>?_) (fun hab=>absurd (by decide) hab)
 refine ag (rW (ag ?_))
 show wpAny _ _ (yO S (·.push .none) >>= fun ux=>yO S (·.pop)) _ _ _
 have hS₁:=k0 _ _ hS
 refine ag (fg hS₁ rfl ?_)
 have hS₂:=cg (a9 (·.push ae)) hS₁ rfl
 refine fg (hz:=by seq_fits) hS₂ rfl ?_
 have hS₃:=cg (a9 (·.pop)) hS₂ rfl
 have oth:∀ b o,b≠S→(s.heap.push { cls:=.type "dict_keyiterator",data:=.fields #[.ref d,.int 0 0,.int kvs.length 0,.int ep 0] }).get? b=some o→(((s.heap.push { cls:=.type "dict_keyiterator",data:=.fields #[.ref d,.int 0 0,.int kvs.length 0,.int ep 0] }).update S (a9 (·.push ae))).update S (a9 (·.pop))).get? b=some o:=
  fun b o hb e=>(aP _ _ (bl hb)).trans ((aP _ _ (bl hb)).trans e)
 have W:=ug (A:=A.in1) (knd:=knd) s.heap.objs.size d (cw hm.lt_size) kvs ep
 refine aB ⟨gz PySem.F.plain_extend_loop _,codeAny_extend_loopS W.toS hn S hSf res kvs.length 0 _ _ _ rfl (dw _) (W.frame 0 _ _ ⟨⟨_,aS _ rfl,rfl,rfl⟩,hm.push _,HS.keeps (A:=A) hs k0⟩ fun b hb o e=>oth b o (fun z=>hSf (z▸hb)) e) hS₃ (ItemsOf.nil _) fun s' acc' c' hmv hS' hacc=>?_⟩
 rw [Moved.eq_with hmv]
 refine hR s'.heap s'.toks acc' c' (fun b ob hb e=>hmv.heap b ob (fun hmem=>?_) (oth b ob hb (k0 _ _ e))) hS' hacc
 rcases aQ.mp hmem with e'|hmem
 ·exact hb e'
 ·exact absurd (bq e) (by rw [aC.mp hmem];exact ba _)
theorem pG {K:Type} [DecidableEq K] {knd:KeyKind af w K} {d:Addr} {ep:Nat} {kvs:List (K×Value)} {Q:Value→az→Prop} (hs:HS A s.heap) (lo:(d == sysModules)=false) (hm:s.heap.DictAt knd d kvs ep) (hn:kvs.length≤aH)
  (hQ:∀ h' tk acc' c',(∀ b o,s.heap.get? b=some o→h'.get? b=some o) →
   h'.get? s.heap.objs.size=some { cls:=.type "list",dict:=none,data:=.seq acc' c',slots:=#[] }→ItemsOf (fun i v=>∃ k x,kvs[i]?=some (k,x)∧knd.is k v=true) acc' kvs.length→Q (.ref s.heap.objs.size) { s with heap:=h',toks:=tk }) :
  wpAny (model af w) A (call (.type "list") [.ref d]) Q E s:=by
 refine callType_codes (Q₁:=fun obj s₁=>obj = .ref s.heap.objs.size∧s₁={ s with heap:=s.heap.push { cls:=.type "list",data:=.seq #[] } }) PySem.F.called_list (PySem.F.typeCall_list_1 _) PySem.F.entry_list_init
  (code_list_new _ ⟨rfl,rfl⟩) fun obj s₁ h₁=>?_
 obtain ⟨rfl,rfl⟩:=h₁
 have hS:(s.heap.push { cls:=.type "list",data:=.seq #[] }).get? s.heap.objs.size=some { cls:=.type "list",data:=.seq #[] }:=aS _ rfl
 have lt:∀ {a:Addr} {o:Obj},s.heap.get? a=some o→a≠s.heap.objs.size:=fun e=>cw (bq e)
 refine ⟨⟨_,hS,rfl⟩,PySem.F.args_list_init_2 _ _,?_⟩
 show wpAny _ _ (do let old ← Builtin.List.listItems (.ref s.heap.objs.size);Builtin.List.listUpdate (.ref s.heap.objs.size) (fun ux=>#[]);letGo old.toList.reverse;i5 (.ref s.heap.objs.size) (.ref d) .none) _ _ _
 refine ag ?_
 unfold Builtin.List.listItems
 refine ag (fT hS rfl (aB ?_))
 show wpAny _ _ (yO s.heap.objs.size (fun ux=>#[]) >>= fun ux=>letGo (#[]:Array Value).toList.reverse >>= fun ux=>i5 (.ref s.heap.objs.size) (.ref d) .none) _ _ _
 refine ag (fg hS rfl ?_)
 have hS₂:=cg (a9 (fun ux=>(#[]:Array Value))) hS rfl
 have oth:∀ b o,s.heap.get? b=some o→((s.heap.push { cls:=.type "list",data:=.seq #[] }).update s.heap.objs.size (a9 (fun ux=>(#[]:Array Value)))).get? b=some o:=
  fun b o e=>(aP _ _ (bl (lt e))).trans (aq _ e)
 refine ag (ie ?_)
 refine ta (A:=A.in1) (HS.keeps (A:=A) hs oth) lo (hm.at' fun o e=>oth d o e) _ _ _ hS₂ (d7 hm.lt_size) hn fun h' tk acc' c' hk hS' hacc=>?_
 exact ⟨rfl,hQ h' tk acc' c' (fun b o e=>hk b o (lt e) (oth b o e)) hS' hacc⟩
theorem Ej {a b:Int} {t u:Tok} {Q:Value→az→Prop} (hs:HS A s.heap) (h:∀ h' tk,(∀ c o,s.heap.get? c=some o→h'.get? c=some o)→Q (if b<a then .int b u else .int a t) { s with heap:=h',toks:=tk }) :
  wpAny (model af w) A (call (.builtin "min") [.int a t,.int b u]) Q E s:=by
 have hT:(s.heap.push { cls:=.type "tuple",data:=.seq #[.int a t,.int b u] }).IsTuple s.heap.objs.size (dZ #[(a,t),(b,u)]):=⟨_,aS _ rfl,rfl,0,by simp [dZ]⟩
 have sz:(s.heap.push { cls:=.type "tuple",data:=.seq #[.int a t,.int b u] }).objs.size=s.heap.objs.size+1:=Heap.size_push ..
 refine call_min_two (wpAny_pyIter_tuple hT ?_)
 have k2:∀ c o,s.heap.get? c=some o→((s.heap.push { cls:=.type "tuple",data:=.seq #[.int a t,.int b u] }).push { cls:=.type "tuple_iterator",data:=.fields #[.ref s.heap.objs.size,.int 0 0] }).get? c=some o:=fun c o e=>aq _ (aq _ e)
 refine ⟨_,_,[_],_,_,_,_,rfl,xg (A:=A.in1) _ s.heap.objs.size (by rw [sz];exact cw (ew _)) (dZ #[(a,t),(b,u)]),⟨⟨_,aS _ rfl,rfl,rfl⟩,hT.push _,HS.keeps (A:=A) hs k2⟩,fun c hc=>?_,by simp [dZ],CmpOf.ints_lt (numAt #[(a,t),(b,u)]) (fun ux ux=>intItems_at),fun v h' tk hP hk=>?_⟩
 ·show c<((s.heap.push _).push _).objs.size
  rw [Heap.size_push,sz]
  rcases aQ.mp hc with rfl|hc
  ·rw [sz];exact ew _
  rcases aQ.mp hc with rfl|hc
  ·exact cM (ew _)
  ·obtain ⟨o,vs,g1,_⟩:=At hs hc
   exact cM (cM (bq g1))
 ·have:=h h' tk fun c o e=>hk c o (fun hm=>by
   have:=bq e
   rw [aC.mp hm,sz] at this
   exact ba _ (d8 this)) (k2 c o e)
  have hv:v=if b<a then Value.int b u else Value.int a t:=by
   have hP':(dZ #[(a,t),(b,u)])[fL (fun i j=>decide (numAt #[(a,t),(b,u)] i<numAt #[(a,t),(b,u)] j)) 1]?=some v:=by
    have:(dZ #[(a,t),(b,u)]).size - 1=1:=by simp [dZ]
    rw [← this];exact hP
   by_cases hba:b<a
   ·rw [show fL (fun i j=>decide (numAt #[(a,t),(b,u)] i<numAt #[(a,t),(b,u)] j)) 1=1 by simp [fL,numAt,hba]] at hP'
    simpa [dZ,hba] using hP'.symm
   ·rw [show fL (fun i j=>decide (numAt #[(a,t),(b,u)] i<numAt #[(a,t),(b,u)] j)) 1=0 by simp [fL,numAt,hba]] at hP'
    simpa [dZ,hba] using hP'.symm
  rw [hv];exact this
end
set_option tactic.hygienic false
section
variable {A:dM} {E:Value→az→Prop} {s:az} {env:Env}
variable {nm q:Str} {C N:Addr} {bs bm bmB:List Value} {hdct:Bool} {sn:List Str} {sub:List Value} {ab:Bool} {col:Option Bool} {dd:Option Addr} {k0 k1 k2 k3 k5:Option Value} {B newId initId:String}
theorem B6 {x:Sem Value} {Q:Flow→az→Prop} (hbase:bm.contains (.type "BaseException")=true)
  (h:wpAny (model af w) A x (fun v s₁=>∃ e t,v = .ref e∧s₁.heap.get? C=some (excClassObj nm q C N bs bm hdct sn sub ab col dd k0 k1 k2 k3 k5 newId) ∧
   s₁.heap.get? e=some { cls:=.ref C,data:=.fields #[.ref t,.none,.none,.none,.bool false,.none] }∧HS A s₁.heap ∧
   ∀ h' vs',(∀ b,b≠e→h'.get? b=s₁.heap.get? b)→h'.get? e=some { cls:=.ref C,data:=.fields vs' }→(∀ i,i≠2→vs'[i]?=#[aZ t,.none,.none,.none,.bool false,.none][i]?)→(A.handled=none→vs'=#[aZ t,.none,.none,.none,.bool false,.none])→E (.ref e) { s₁ with heap:=h' }) E s) :
  wpAny (model af w) A (raiseStmt env (some x) none) Q E s:=by
 have hcB:(aZ C::bm).contains (.type "BaseException")=true:=by rw [List.contains_cons,hbase,Bool.or_true]
 unfold raiseStmt
 refine ag (ak h (fun v s₁ h₁=>?_) fun ux ux x=>x)
 obtain ⟨e,t,rfl,hC,he,hs,hE⟩:=h₁
 obtain ⟨hp,g,d,tk,os⟩:=s₁
 repeat (first|with_reducible refine wpAny_loadPart_at he ?_|with_reducible refine wpAny_loadPart_at hC ?_|(with_reducible refine wpAny_isSubtype_exc hC ?_;rw [hcB])|wp_step)
 exact si hs he rfl (am rfl) hE
theorem C7 (F:ExcBaseFacts B newId initId bmB) {mN:Str→Option Value} {x:Str} {np cpos pos:Pos} {args:List Expr} {Q:Flow→az→Prop}
  (hbase:bm.contains (.type "BaseException")=true) (hplain:(db cpos (bv args env)).any (·.1)=false) (hni:mN "__init__"=none)
  (h:wpAny (model af w) A (eval (.Name x np) env) (fun f s₁=>f = .ref C∧wpAny (model af w) A (evalArgs (.ref C) true (db cpos (bv args env)) [])
   (fun a s₂=>a.kw=[]∧a.pos.length≤aH∧s₂.heap.get? C=some (excClassObj nm q C N bs bm hdct sn sub ab col dd k0 k1 k2 k3 k5 newId)∧s₂.heap.Ns N mN∧OwnTail s₂.heap bmB bm∧HS A s₂.heap ∧
    ∀ h' h'' e t vs',Heap.MadeExcOf s₂.heap h' e (.ref C) a.pos→(∀ b,b≠e→h''.get? b=h'.get? b)→h''.get? e=some { cls:=.ref C,data:=.fields vs' }→(∀ i,i≠2→vs'[i]?=#[aZ t,.none,.none,.none,.bool false,.none][i]?)→(A.handled=none→vs'=#[aZ t,.none,.none,.none,.bool false,.none])→E (.ref e) { s₂ with heap:=h'' }) E s₁) E s) :
  wpAny (model af w) A (exec (.Raise (some (.Call (.Name x np) args [] cpos)) none pos) env) Q E s:=by
 rw [arm_exec_Raise]
 refine ag (oF (B6 (C:=C) (nm:=nm) (q:=q) (N:=N) (bs:=bs) (bm:=bm) (hdct:=hdct) (sn:=sn) (sub:=sub) (ab:=ab) (col:=col) (dd:=dd) (k0:=k0) (k1:=k1) (k2:=k2) (k3:=k3) (k5:=k5) (newId:=newId) hbase (ag (ak (wpAny_Call_ofName (ak h (fun f s₁ h₁=>?_) fun ux ux x=>x)) (fun v s₃ h₃=>ag (oF (aB h₃))) fun ux ux x=>x))))
 obtain ⟨rfl,h₁⟩:=h₁
 unfold kK
 refine ag (dq (ak h₁ (fun a s₂ h₂=>ag (oF ?_)) fun ux ux x=>x))
 obtain ⟨apos,akw⟩:=a
 obtain ⟨hkw,hlen,hC,hn,T,hs,h₂⟩:=h₂
 obtain rfl:akw=[]:=hkw
 obtain ⟨hp,g,d,tk,os⟩:=s₂
 simp only [hplain]
 refine ag (wpAny_keeperOf_exc hC ?_)
 refine ag (wpAny_call_exc_subT (hrest:=hlen) F T hC hn hni fun h' e hm=>ag (dq (wpAny_point (aB ?_))))
 obtain ⟨t,ht,_,_⟩:=hm.there
 exact ⟨e,t,rfl,hm.keeps _ _ hC,ht,hs.keeps hm.keeps,fun h'' vs' z1 z2 z3 z4=>h₂ h' h'' e t vs' hm z1 z2 z3 z4⟩
end
structure Gx (af:aV) (K:Frag) (cx:CX) (sc:Scope) (n:Nat):Prop where
 ok:Ok af K cx sc n
 fe:cx.env=cx.fenv
 hd:∀ v,cx.A.handled=some v→∃ e o vs,v = .ref e∧cx.P e o∧o.data = .fields vs∧vs[2]?=some .none
section
variable {K:Frag} {cx:CX} {sc:Scope} {n:Nat} {σ:AS} {Q:AV→AS→Prop} {QB:Bool→AS→Prop} {QF:AF→AS→Prop} {E:Value→AS→Prop} {pos:Pos}
theorem Fx.gx (g:Fx af K cx sc n):Gx af K cx sc n:=⟨g.ok,g.fe,fun v q=>by rw [g.hh] at q;cases q⟩
theorem Gx.hs {s:az} (g:Gx af K cx sc n) (r:R af w cx σ s):HS cx.A s.heap:=fun v q =>
 let ⟨e,o,vs,a,b,c,d⟩:=g.hd v q;⟨e,o,vs,a,(r.pr e o b).1,c,d⟩
theorem Gx.withP (g:Gx af K cx sc n) {P':Addr→Obj→Prop} (hP:∀ b o,cx.P b o→P' b o):Gx af K (cx.withP P') sc n:=
 ⟨g.ok.withP P',g.fe,fun v q=>let ⟨e,o,vs,a,b,c,d⟩:=g.hd v q;⟨e,o,vs,a,hP e o b,c,d⟩⟩
theorem tz (g:Gx af K cx sc (n+1)) {f:Addr} {sc':Scope} {body:List Stmt} {ps:List Str} {l:List AV} (F:Fn K f sc' body ps) (hlen:ps.length=l.length)
  (h:∀ cx',Gx af K cx' sc' n→cx'.A.handled=cx.A.handled→cf af w cx' body (σ.enter ps l) (fun fl σ₂=>Q (lI fl) ⟨σ.loc,σ₂.hp⟩) (fun C σ₂=>E C ⟨σ.loc,σ₂.hp⟩)):gd af w cx (.ref f) l σ Q E:=
 (A0 g.ok F hlen fun cx' ok fe hh ux hP=>h cx' ⟨ok,fe,fun v q=>let ⟨e,o,vs,a,b,c,d⟩:=g.hd v (hh.symm.trans q);⟨e,o,vs,a,hP e o b,c,d⟩⟩ hh).cl
theorem yt (g:Gx af K cx sc (n+1)) {f:Addr} {sc':Scope} {body:List Stmt} {ps:List Str} {l:List AV} (F:Fn K f sc' body ps) (hlen:ps.length=l.length)
  (h:∀ cx',Gx af K cx' sc' n→cx'.A.handled=cx.A.handled→cf af w cx' body (σ.enter ps l) (Fj Q σ.loc) (yE E σ.loc)):gd af w cx (.ref f) l σ Q E:=
 gd.forget (tz g F hlen fun cx' g' hh=>(h cx' g' hh).imp (fun fl σ₂ ⟨a,b,c⟩=>⟨a,b,c⟩) fun C σ₂ ⟨a,b,c⟩=>⟨a,b,c⟩)
theorem yH (g:Gx af K cx sc n) {test:Expr} {body:List Stmt} (J:Nat→AS→Prop) (k₀:Nat) (h0:J k₀ σ)
  (turn:∀ k σ₁,J k σ₁→og af w cx test σ₁ (fun c σ₂=>if c then cf af w cx body σ₂ (rI (fun σ=>∃ m,m<k∧J m σ) QF) E else QF .next σ₂) E) :
  jv af w cx (.While test body [] pos) σ QF E:=tc g.ok g.fe J k₀ h0 fun k σ₁ hj=>(turn k σ₁ hj).imp (fun c σ₂ q=>by
   cases c with
   |false=>exact q
   |true=>exact Wp.imp q (fun f σ₃ q=>by cases f <;> exact q) fun ux ux e=>e) fun ux ux e=>e
theorem C6 {a b:Int} (g:Gx af K cx sc n) (h:Q (.int (min a b)) σ):gd af w cx (.builtin "min") [.int a,.int b] σ Q E:=fun s vs r hv=>by
 obtain ⟨v,u,rfl,⟨t,rfl⟩,⟨t',rfl⟩⟩:=r5 hv
 refine Ej (g.hs r) fun h' tk k=>⟨.int (min a b),σ,r.grow k,?_,VM.of_keeps k,h⟩
 split
 ·rw [Int.min_eq_right (by (exact gU (by assumption)))];exact cQ
 ·rw [Int.min_eq_left (by (exact Int.not_lt.mp (by assumption)))];exact cQ
theorem p3 (g:Gx af K cx sc n) {x:Addr} {d:List (Int×Int)} (hx:σ.hp x=some (.dict d)) (hz:d.length≤aH) (h:∀ y,σ.hp y=none→Q (.ref y) (σ.put y (.list ((d.map (·.1)).map AV.int)))):gd af w cx (.type "list") [.ref x] σ Q E:=fun s vs r hv=>by
 obtain ⟨va,rfl,p⟩:=ke hv
 rw [show va = .ref x from p]
 obtain ⟨⟨kvs,hd,kv,lo⟩,_⟩:=r.ob x _ hx
 obtain ⟨o,es,ep,d1,d2,d3,d4⟩:=id hd
 refine pG (g.hs r) (knd:=intKind af w) (kvs:=kvs) (ep:=ep) lo ⟨o,es,d1,d2,d3,d4⟩ (by rw [kv.length];exact hz) fun h' tk acc c k hl hi=>?_
 have vm:=VM.of_keeps k
 have hq:=h _ (gq r)
 rw [bn] at hq
 refine ⟨.ref _,_,r.new (tk:=tk) (ao:=.list (d.map (AV.int ∘ fun x=>x.1))) (cE _) k ⟨acc.toList,⟨c,by simpa using hl⟩,?_⟩,di,vm,hq⟩
 exact rY kv (by rw [aD];exact hi.1) fun j v e=>hi.2 j v (by rw [← bG];exact e)
theorem BN (g:Gx af K cx sc n) {x:Str} {px:Pos} {iter:Expr} {body:List Stmt} (hx:sc.names.lookup x=some .local) (hs:∀ v,dF iter cx.env v=pure v)
  (h:bZ af w cx iter σ (fun v σ₁=>∃ ax l,∃ J:Nat→AS→Prop,v = .ref ax∧J 0 σ₁∧(∀ i σ,J i σ→σ.hp ax=some (.list l)) ∧
   (∀ i a σ cx',Gx af K cx' sc n→l[i]?=some a→J i σ→cf af w cx' body (σ.set x a) (rI (J (i+1)) QF) E)∧∀ σ,J l.length σ→QF .next σ) E):jv af w cx (.For (.Name x px) iter body [] pos) σ QF E:=
 wQ g.ok g.fe (upd:=fun a σ=>σ.set x a) (h.imp (fun v σ₁ ⟨ax,l,J,h1,h2,h3,h4,h5⟩=>by
  subst h1
  refine ⟨l,J,fun s v E' r hv=>?_,fun i P' a σ Q ha hq s v r hv=>vE (oJ (cx:=cx.withP P') (g.ok.withP P') hx hq s v r hv),h2,fun i a σ P' ha hj hP=>h4 i a σ _ (g.withP hP) ha hj,h5⟩
  rw [show v = .ref ax from hv]
  have hl:σ₁.lst ax l:=.inl (h3 0 σ₁ h2)
  obtain ⟨vs,hl',hv'⟩:=r.lst hl
  refine wpAny_pyIter_list hl' ?_
  have k:∀ b o,s.heap.get? b=some o→(s.heap.push { cls:=.type "list_iterator",data:=.fields #[.ref ax,.int 0 0] }).get? b=some o:=fun b o e=>aq _ e
  have S:Fp af w cx s.heap.objs.size l (fun σ=>σ.lst ax l) (fun i h=>h.IsListIter s.heap.objs.size ax i):={
   data:=fun i h it=>lL it
   item:=fun i s σ a Q E ha r hT it hQ=>by
    obtain ⟨vs,hl,hv⟩:=r.lst hT
    obtain ⟨v,hvi,hva⟩:=hv.get ha
    exact wpAny_pyNext_list_item it hl (x:=v) (by simpa using hvi) fun h' it' hs'=>hQ v h' s.toks hva it' fun b o hb e=>(hs'.2 b hb).trans e
   done:=fun s σ Q E r hT it hQ=>by
    obtain ⟨vs,hl,hv⟩:=r.lst hT
    exact zd (g.hs r) it hl (by simp [hv.length]) fun h' he'=>hQ h' s.toks he'
   self:=fun i s Q E it hQ=>wpAny_pyIter_listiter it hQ }
  exact ⟨_,_,_,rfl,r.grow (tk:=s.toks) k,VM.of_keeps k,S,fun σ' ⟨i,hj⟩=> .inl (h3 i σ' hj),⟨_,aS _ rfl,rfl,rfl⟩,Off.new r (cE _),fun i a s v Q E ux ux ux hq=>oV (a:=()) rfl hq⟩) fun ux ux e=>e) hs
theorem rT (g:Gx af K cx sc n) {x:Str} {C:Addr} {np cpos:Pos} {args:List Expr} (hx:sc.names.lookup x=some .globalImplicit) (e:nsIn K bk x=some (some (.ref C)))
  (q:excIn K C [.type "ValueError",.type "Exception",.type "BaseException",.type "object"] "ValueError.__new__"=true) (hd:(x == ("__debug__":Str))=false) (hpl:∀ env,(db cpos (bv args env)).any (·.1)=false) (h0:cx.A.handled=none∨∃ σ,E .none σ)
  (h:fN af w cx cpos args σ (fun l σ₁=>l.length≤aH∧E (.ref C) σ₁) E):jv af w cx (.Raise (some (.Call (.Name x np) args [] cpos)) none pos) σ QF E:=fun s r=>by
 have ok:=g.ok
 have FB:=PySem.F.excBase_ValueError
 obtain ⟨p,loose,mg,mb,T⟩:=ok.glo.top
 obtain ⟨tl,N,nm,qn,bs,hdct,sn,sub,ab,col,dd,k0,k1,k2,k3,k5,mN,hC,hN,hni,TL⟩:=(own_of_in ok.glo.KX T e q).obj
 refine C7 (C:=C) (nm:=nm) (q:=qn) (N:=N) (bs:=bs) (bm:=tl) (hdct:=hdct) (sn:=sn) (sub:=sub) (ab:=ab) (col:=col) (dd:=dd) (k0:=k0) (k1:=k1) (k2:=k2) (k3:=k3) (k5:=k5) FB (mN:=mN) (TL.hasType FB.hasBase) (hpl _) hni ?_
 refine ak (mR (E:=E) (pos:=np) (Q:=fun v σ₁=>v = .ref C∧σ₁=σ) ok hx e (fun ux=>di) ⟨rfl,rfl⟩ hd s r) (fun f s₁ zz=>zz.use fun a σ₁ r₁ v₁ m₁ ⟨ha,hσ⟩=>?_) fun ux ux e=>e
 subst ha hσ
 refine ⟨v₁,eK (hpl _) (ak (h s₁ r₁) (fun vs s₂ zz=>zz.use fun l σ₂ r₂ v₂ m₂ ⟨hl,hE⟩=>?_) fun ux ux e=>e.mono m₁)⟩
 refine ⟨rfl,by show vs.length≤_;rw [v₂.length];exact hl,r₂.stay _ _ hC,hN.keeps r₂.stay,TL.keeps r₂.stay,g.hs r₂,fun h' h'' e' t vs' M z1 z2 z3 z4=>?_⟩
 obtain ⟨L,hL⟩:=nV r₂
 have keep:∀ b o,s₂.heap.get? b=some o→h''.get? b=some o:=fun b o q=>(z1 b fun c=>by subst c;rw [M.new] at q;cases q).trans (M.keeps b o q)
 refine ⟨e',.ref C,σ₂,s₂,L,rfl,r₂,rfl,⟨hL,fun b o hb=>keep b o (ut _ hb),?_,?_,Heap.UpToSlots.of_keeps keep⟩,⟨.inl ⟨_,vs',.ref t,z2,rfl,rfl,z3 1 (by decide),z3 0 (by decide)⟩,?_,nofun⟩,m₁.trans m₂,hE⟩
 ·cases qq:(et s₂.heap cx.frames).get? e' with
  |none=>rfl
  |some o=>have:=ut _ qq;rw [M.new] at this;cases this
 ·exact rk _ (fun en he a ha=>bP.mpr ⟨en,he,ha⟩) (r₂.ff.of_keeps fun b o hb ux=>⟨o,keep b o hb,rfl⟩)
 ·rcases h0 with h0|h0
  ·exact .inl ⟨_,vs',z2,rfl,by rw [z4 h0];rfl⟩
  ·exact .inr h0
theorem hd_in (g:Fx af K cx sc n) {x:Str} {np hpos:Pos} {D Ca:Addr} {b₀:Stmt} {body:List Stmt} {rest:List dr} (hx:sc.names.lookup x=some .globalImplicit) (e:nsIn K bk x=some (some (.ref D)))
  (hm:exmOne K (.ref Ca) (.ref D)=some true) (hd:(x == ("__debug__":Str))=false) (h:∀ cx',Gx af K cx' sc n→cf af w cx' (b₀::body) σ QF E):E6 af w cx (.ExceptHandler (some (.Name x np)) none (b₀::body) hpos::rest) (.ref Ca) σ QF E:=
 fun s ex L a0 h₀ tk r xc t ff=>ri g.ok hx e hm hd r xc t (fun _=>by
  refine codeAny_handlers_suite (zj xc.st xc.ff t.at fun h' k1 k2 k3 k4 k5=>?_)
  have u:s.heap.UpToSlots h':=fun b o hb hn=>⟨o.slots,k4 b o hb hn⟩
  have xc':XC cx h₀ h' L ex:=⟨xc.fr,k1,xc.new,k2,xc.up.trans u⟩
  have r':R af w cx σ { s with heap:=h',toks:=s.toks }:=r.slots (tk:=s.toks) k1 (xc.up.trans u)
  obtain ⟨oe,vs,he,hde,h2⟩:=k5 ff
  obtain ⟨b1,b2,b3⟩:=wP r xc
  obtain ⟨_,_,_,c3,c4⟩:=(EE (tk':=s.toks) r xc' k3).ob ex _ aX
  have off:Off cx σ ex:=⟨b1,b2,(fun ao q=>by rw [b3] at q;cases q),c3,fun hm=>by obtain ⟨en,he,hf⟩:=dX hm;exact c4 en he hf⟩
  have hP:∀ b o,cx.P b o→(fun b x=>cx.P b x∨(b=ex∧x=oe)) b o:=fun b o q=> .inl q
  have rg:=(r'.guard off he).mark ex
  refine ak (h ((cx.withP fun b x=>cx.P b x∨(b=ex∧x=oe)).mark ex) ⟨(g.ok.withP _).mark ex,g.fe,fun v q=>⟨ex,oe,vs,by injection (show some (aZ ex)=some v from q) with q;exact q.symm,.inr ⟨rfl,rfl⟩,hde,h2⟩⟩ { s with heap:=h' } rg) (fun f s₂ zz=>zz.use fun a σ₂ r₂ v₂ m₂ q₂=>?_) fun v s₂ p=>?_
  ·exact ⟨a,σ₂,r₂.unmark.lessP hP,v₂,(yK (xc.up.trans u)).trans m₂,q₂⟩
  ·obtain ⟨e',C,σ',s₀,L',rfl,r₂,hs,x,es,m,q⟩:=p
   unfold Cj
   refine q8 (cx:=cx.mark ex) g.ok.fr g.fe ⟨x.1,x.2,x.3,x.4,x.5⟩ es fun h₂ a0 x' ht ff=>?_
   refine Bj (cx:=cx) g.fe ⟨x'.1,x'.2,x'.3,x'.4,x'.5⟩ ht fun h₃ x'' ht' k=>?_
   exact ⟨e',C,σ',s₀,L',rfl,r₂.unmark.lessP hP,by rw [hs],x'',⟨.inr (.inr ⟨a0,ht'⟩),ff.imp k id,es.3⟩,(yK (xc.up.trans u)).trans m,q⟩) fun q=>by cases q
end
noncomputable def oh (k:Nat) (hd:List (Int×Int)) (vs:List Int):Prop:=∃ (ms:List Int) (d:List (Int×Int)) (t:BT k) (sp:List (Int×Int)) (p:Int),
 Ord vs ms∧d.map (·.1)=ms.take d.length∧ms[d.length]?=some p∧hV t sp (hd++ka vs d)∧cn t∧∀ q∈cI false 0 t,q.2<2 ^ fe (iU vs p)
section
variable {K:Frag} {cx:CX} {sc:Scope} {n:Nat} {σ σ':AS} {Q:AV→AS→Prop} {QB:Bool→AS→Prop} {QF:AF→AS→Prop} {E:Value→AS→Prop} {pos:Pos}
inductive BJ (K:Frag) (P:Addr) (pos:Pos) (qual:Str) (E:Value→AS→Prop) (Q:AV→AS→Prop) (l:List AV) (σ:AS):Prop
 |mk (y u:Addr) (k:Nat) (t:BT k) (C dx S H:Addr) (sp hd:List (Int×Int)) (vs:List Int) (hl:l=[.ref y,.ref u]) (hY:Yd K σ y k t C dx S H sp hd) (hu:σ.hp u=some (.list (vs.map AV.int))) (hlen:hd.length+vs.length≤2 ^ 14) (ga:GA P pos qual σ)
  (hE:oh k hd vs→∀ σ,E .none σ)
  (hw:(∃ v∈vs,v<1)→ng K E "NoWish" σ)
  (hr:(∀ v∈vs,1≤v)→(∃ v∈vs,2 ^ k<v)→ng K E "NoRoom" σ)
  (hn:(∀ v∈vs,1≤v∧v≤2 ^ k)→oh k hd vs→∀ σ' sp',σ'.loc=σ.loc→Yd K σ' y k t C dx S H sp' hd→σ.But3 P S H σ'→GA P pos qual σ'→ng K E "NoRoom" σ')
  (hq:(∀ v∈vs,1≤v∧v≤2 ^ k)→∀ d,Ord vs (d.map (·.1))→ic k hd vs d→∀ σ' r t' sp',σ'.loc=σ.loc→Yd K σ' y k t' C dx S H sp' (hd++ka vs d)→σ'.hp r=some (.list ((upTo vs.length).map fun i=>AV.int (iY d i)))→σ.But3 P S H σ'→GA P pos qual σ'→(∀ a o,a≠P→a≠S→a≠H→σ.hp a=some o→a≠r)→Q (.ref r) σ'):BJ K P pos qual E Q l σ
inductive GbO (K:Frag) (P:Addr) (pos:Pos) (qual:Str) (σ₀:AS) (y u:Addr) (k:Nat) (t:BT k) (dx S H:Addr) (sp hd:List (Int×Int)) (vs:List Int) (σ:AS):Prop
 |mk (C:Addr) (ax:Addr) (ms:List Int) (ho:Ord vs ms) (hY:Yd K σ y k t C dx S H sp hd) (hu:σ.hp u=some (.list (vs.map AV.int))) (ha:σ.hp ax=some (.list (ms.map AV.int))) (ly:σ.loc (aa "yard")=some (.ref y)) (lw:σ.loc (aa "wants")=some (.ref u)) (lo:σ.loc (aa "order")=some (.ref ax)) (ga:GA P pos qual σ) (but:σ₀.But3 P S H σ):GbO K P pos qual σ₀ y u k t dx S H sp hd vs σ
inductive GbI (K:Frag) (P:Addr) (pos:Pos) (qual:Str) (σ₀:AS) (y u G ax:Addr) (k:Nat) (dx S H:Addr) (hd:List (Int×Int)) (vs:List Int) (ms:List Int) (i:Nat) (σ:AS):Prop
 |mk (C:Addr) (t:BT k) (sp d:List (Int×Int)) (hm:d.map (·.1)=ms.take i) (hl:d.length=i) (due:ic k hd vs d) (hY:Yd K σ y k t C dx S H sp (hd++ka vs d)) (hg:σ.hp G=some (.dict d)) (hu:σ.hp u=some (.list (vs.map AV.int))) (ha:σ.hp ax=some (.list (ms.map AV.int))) (ly:σ.loc (aa "yard")=some (.ref y)) (lw:σ.loc (aa "wants")=some (.ref u)) (lg:σ.loc (aa "given")=some (.ref G)) (ga:GA P pos qual σ) (but:σ₀.But3 P S H σ):GbI K P pos qual σ₀ y u G ax k dx S H hd vs ms i σ
theorem GbI.at {P:Addr} {qual:Str} {σ₀:AS} {y u G ax:Addr} {k:Nat} {dx S H:Addr} {hd:List (Int×Int)} {vs ms:List Int} {i:Nat} (h:GbI K P pos qual σ₀ y u G ax k dx S H hd vs ms i σ):σ.hp ax=some (.list (ms.map AV.int)):=let ⟨_,_,_,_,_,_,_,_,_,_,ha,_,_,_,_,_⟩:=h;ha
inductive GcI (K:Frag) (P:Addr) (pos:Pos) (qual:Str) (σ₀:AS) (y G z:Addr) (k:Nat) (dx S H:Addr) (hd:List (Int×Int)) (vs:List Int) (d:List (Int×Int)) (i:Nat) (σ:AS):Prop
 |mk (C:Addr) (t:BT k) (sp:List (Int×Int)) (hY:Yd K σ y k t C dx S H sp (hd++ka vs (d.drop i))) (hg:σ.hp G=some (.dict d)) (hz:σ.hp z=some (.list ((d.map (·.1)).map AV.int))) (ly:σ.loc (aa "yard")=some (.ref y)) (lg:σ.loc (aa "given")=some (.ref G)) (ga:GA P pos qual σ) (but:σ₀.But3 P S H σ):GcI K P pos qual σ₀ y G z k dx S H hd vs d i σ
theorem GcI.at {P:Addr} {qual:Str} {σ₀:AS} {y G z:Addr} {k:Nat} {dx S H:Addr} {hd:List (Int×Int)} {vs:List Int} {d:List (Int×Int)} {i:Nat} (h:GcI K P pos qual σ₀ y G z k dx S H hd vs d i σ):σ.hp z=some (.list ((d.map (·.1)).map AV.int)):=let ⟨_,_,_,_,_,hz,_,_,_,_⟩:=h;hz
theorem th {hd r:List (Int×Int)} {x s:Int} (hk:gE (hd++(x,s)::r)):dS (hd++(x,s)::r) x=hd++r:=by
 unfold dS gE at *
 rw [bu,aM,ij] at hk
 obtain ⟨h1,h2,h3⟩:=hk
 rw [jA] at h2
 rw [dH,cj]
 simp only [ne_eq,not_true_eq_false,decide_false,bQ,if_false]
 rw [bS.mpr,bS.mpr]
 ·intro p hp
  exact decide_eq_true fun q=>h2.1 (by rw [← q];exact bx.mpr ⟨p,hp,rfl⟩)
 ·intro p hp
  exact decide_eq_true fun q=>h3 p.1 (bx.mpr ⟨p,hp,rfl⟩) x (.head _) q
theorem zm {vs:List Int} {d:List (Int×Int)} {i:Nat} {p:Int×Int} (hp:d[i]?=some p):ka vs (d.drop i)=(p.2,2 ^ fe (iU vs p.1))::ka vs (d.drop (i+1)):=by
 obtain ⟨hi,rfl⟩:=aF.mp hp
 rw [cP hi]
 rfl
theorem y3 {vs ms:List Int} {d:List (Int×Int)} {i:Nat} (ho:Ord vs ms) (hm:d.map (·.1)=ms.take i):gE d:=by
 have:ms.Nodup:=ho.p.nodup_iff.mpr (iz.imp fun h=>vy h)
 unfold gE
 rw [hm]
 exact this.sublist (c5 _ _)
theorem yh {vs ms:List Int} {d:List (Int×Int)} {i:Nat} {m x:Int} (ho:Ord vs ms) (hm:d.map (·.1)=ms.take i) (hi:ms[i]?=some m):iH d m x=d++[(m,x)]:=
 mV (oN ho hm hi).2.2
theorem zb {ms:List Int} {d:List (Int×Int)} {i:Nat} {m x:Int} (hm:d.map (·.1)=ms.take i) (hi:ms[i]?=some m):(d++[(m,x)]).map (·.1)=ms.take (i+1):=by
 obtain ⟨h,rfl⟩:=aF.mp hi
 rw [bu,hm,cZ h]
 rfl
theorem jn {vs:List Int} {i:Nat} {a:AV} (ha:(vs.map AV.int)[i]?=some a):∃ v,vs[i]?=some v∧a = .int v:=by
 rw [aR] at ha
 obtain ⟨v,hv,rfl⟩:=bT.mp ha
 exact ⟨v,hv,rfl⟩
theorem tF {P:Int→Prop} {vs:List Int} {i:Nat} {v:Int} (hi:vs[i]?=some v) (h:∀ u∈vs.take i,P u) (hv:P v):∀ u∈vs.take (i+1),P u:=by
 obtain ⟨h',rfl⟩:=aF.mp hi
 rw [cZ h']
 intro u hu
 rcases ay.mp hu with q|q
 ·exact h u q
 ·rw [aC.mp q];exact hv
end
theorem nZ {A:dM} {E:Value→az→Prop} {s:az} {id:String} {b:Builtin} {args:List Value} {kw:List (Str×Value)} {Q:Value→az→Prop} (hk:builtinKind id=none) (hp:plainId id=true) (hb:entryFor table id=some b) (ha:argsOk id ⟨args,kw⟩)
  (hc:wpAny (model af w) A.in1 (b ⟨args,kw⟩) (fun fin s'=>match fin with
   | .done f=>(match (Except.ok f:Result) with | .ok (.ret v)=>Q v s' | .ok _=>False | .error e=>E e s')
   | .again c'=>c'.quiet=true∧rn (model af w) A c' (fun r s'=>match r with | .ok (.ret v)=>Q v s' | .ok _=>False | .error e=>E e s') s') E s) :
  wpAny (model af w) A (call (.builtin id) args kw) Q E s:=by
 refine wpAny_call (codeAny_call_builtin hp hb ?_)
 simp only [checkBuiltinCall,hk]
 cases hsig:Manifest.signature? id with
 |none=>exact aB hc
 |some sig =>
  unfold argsOk at ha
  rw [hsig] at ha
  have h2:Bind.checkArgs id sig ⟨args,kw⟩=pure ():=ha
  show wpAny _ A.in1 (Bind.checkArgs id sig ⟨args,kw⟩) _ _ s
  rw [h2];exact aB hc
noncomputable def WKw (af:aV) (w:World) (cx:CX) (id:String) (kn:Str) (a b:AV) (σ:AS) (Q:AV→AS→Prop) (E:Value→AS→Prop):Prop:=
 ∀ s va vb,R af w cx σ s→VR s.heap a va→VR s.heap b vb→wpAny (model af w) cx.A (call (.builtin id) [va] [(kn,vb)]) (dU af w VR cx s Q) (dh af w cx s E) s
section
variable {K:Frag} {cx:CX} {sc:Scope} {n:Nat} {σ σ':AS} {Q:AV→AS→Prop} {E:Value→AS→Prop} {pos:Pos}
theorem Dv (ok:Ok af K cx sc n) {px kp:Pos} {e lam:Expr} {x kn:Str} {id:String} (hx:sc.names.lookup x=some .globalImplicit) (hn:nsIn K bk x=some none) (hne:x≠"__name__") (hb:fK x=some (.builtin id)) (hdb:(x == ("__debug__":Str))=false)
  (he:∀ env,bv [e] env=(false,eval e env)::bv [] env)
  (h:bZ af w cx e σ (fun a σ₁=>bZ af w cx lam σ₁ (fun b σ₂=>WKw af w cx id kn a b σ₂ Q E) E) E) :
  bZ af w cx (.Call (.Name x px) [e] [⟨some kn,lam,kp⟩] pos) σ Q E:=fun s r=>by
 refine wpAny_Call_Name_kw (ak (kC (Q:=fun a σ'=>a = .raw (.builtin id)∧σ'=σ) (E:=E) ok hx hn hne hb ⟨rfl,rfl⟩ hdb s r) (fun v s₁ zz=>zz.use fun a σ₁ r₁ v₁ m₁ ⟨ha,hσ⟩=>?_) fun ux ux e=>e)
 subst ha hσ
 rw [show v = .builtin id from v₁]
 have he':db pos (bv [e] cx.env)=(false,eval e cx.env)::db pos (bv [] cx.env):=by unfold db;rw [he];rfl
 refine callWith_kw ?_ he' (by rw [he'];rfl) rfl rfl
 have key:fN af w cx pos [e] σ₁ (fun l σ₂=>∃ a,l=[a]∧bZ af w cx lam σ₂ (fun b σ₃=>WKw af w cx id kn a b σ₃ Q E) E) E:=by
  refine vn he fun s r=>ak (h s r) (fun v s₁ zz=>zz.use fun a σ₁ r₁ v₁ m₁ q₁=>⟨a,σ₁,r₁,v₁,m₁,?_⟩) fun ux ux e=>e
  exact aN ⟨a,rfl,q₁⟩
 refine ak (key s₁ r₁) (fun vs s₂ zz=>zz.use fun l σ₂ r₂ v₂ m₂ zz=>?_) fun ux ux e=>e.mono m₁
 obtain ⟨a,hl,q₂⟩:=zz
 subst hl
 obtain ⟨va,rfl,pa⟩:=ke v₂
 refine kws_cons (ak (q₂ s₂ r₂) (fun vb s₃ zz=>zz.use fun b σ₃ r₃ v₃ m₃ q₃=>kws_nil ?_) fun ux ux e=>e.mono (m₁.trans m₂))
 exact ak (q₃ s₃ va vb r₃ (pa.mono m₃) v₃) (fun ux ux p=>p.mono ((m₁.trans m₂).trans m₃)) fun ux ux e=>e.mono ((m₁.trans m₂).trans m₃)
end
section
variable {A:dM} {R:Result→az→Prop} {I:Addr} {fp wr:List Addr} {n:Nat} {P:Nat→Value→Prop} {St:Nat→Heap→Prop}
theorem xy (W:Walks af w A.in1 I fp wr n P St) (bt:Nat→Nat→Bool) (hcmp:CmpOf af w A.in1 .Lt P bt) (S:Addr) (hSf:S∉fp) (kw:List (Str×Value)) :
  ∀ (k j:Nat) (s:az) (vb:Value) (c:Nat),n=j+1+k→j+1≤n→St (j+1) s.heap→P (fL bt j) vb→s.heap.get? S=some { cls:=.type "list",dict:=none,data:=.seq #[vb,vb] c,slots:=#[] } →
  (∀ v h' tk,P (fL bt (n - 1)) v→(∀ b o,b∉wr→b≠S→s.heap.get? b=some o→h'.get? b=some o)→R (.ok (.ret v)) { s with heap:=h',toks:=tk })→rn (model af w) A (.builtin "min.loop" ⟨[.ref I,.none,.ref S],kw⟩) R s:=by
 have hSw:S∉wr:=fun h=>hSf (W.sub _ h)
 have hname:(toString "min"++toString ".loop":String)="min.loop":=by decide
 intro k
 induction k with
 |zero =>
  intro j s vb c hk hj hst hPb hS hR
  have hin:j+1=n:=hk.symm
  refine iI vo ?_
  rw [gy d5 _]
  show wpAny _ A.in1 (seqItems? (.ref S) >>= _) _ _ s
  refine ag (fT hS rfl ?_)
  show wpAny _ A.in1 (tryCatch (oA (.ref I)) _ >>= _) _ _ s
  refine ag (eM (W.done s _ _ (hin▸hst) fun h' tk hk'=>?_))
  have hS':=hk' S _ hSw hS
  show wpAny _ A.in1 (yO S (fun ux=>#[]) >>= _) _ _ _
  refine ag (fg hS' rfl (ag (ie (aB ?_))))
  exact hR vb _ tk (by rw [← hin];exact hPb) fun b o hbw hbS e=>(aP _ _ (bl hbS)).trans (hk' b o hbw e)
 |succ k ih =>
  intro j s vb c hk hj hst hPb hS hR
  have hlt:j+1<n:=by rw [hk];exact Nat.lt_add_of_pos_right (vt k)
  refine iI vo ?_
  rw [gy d5 _]
  show wpAny _ A.in1 (seqItems? (.ref S) >>= _) _ _ s
  refine ag (fT hS rfl ?_)
  show wpAny _ A.in1 (tryCatch (oA (.ref I)) _ >>= _) _ _ s
  refine ag (eM (W.item (j+1) s _ _ hlt hst fun v h' tk hP hst' hk'=>?_))
  have hS':=hk' S _ hSw hS
  show wpAny _ A.in1 (tryCatch (Cz [v,v] (richCompare .Lt v vb >>= _)) _ >>= _) _ _ _
  refine ag (eM (dq (ag (hcmp (j+1) (fL bt j) v vb _ _ _ hP hPb ?_))))
  refine ag (dq (eY ?_))
  refine ag (ie (aB ?_))
  cases hb:bt (j+1) (fL bt j) with
  |true =>
   simp only [if_true]
   refine ag (fg hS' rfl (ag (ie ?_)))
   rw [hname]
   refine aB ⟨gz d5 _,ih (j+1) _ v _ (hk.trans (gT (j+1) k 1)) hlt (W.frame _ _ _ hst' fun b hbf o e=>(aP _ _ (fun h:S=b=>hSf (by rw [h];exact hbf))).trans e) (by simp only [fL,hb,if_true];exact hP) (cg _ hS' rfl) fun v' h'' tk'' hP' hk''=>?_⟩
   exact hR v' h'' tk'' hP' fun b o hbw hbS e=>hk'' b o hbw hbS ((aP _ _ (bl hbS)).trans (hk' b o hbw e))
  |false =>
   simp only [bQ,if_false]
   refine ag (ie ?_)
   rw [hname]
   refine aB ⟨gz d5 _,ih (j+1) _ vb c (hk.trans (gT (j+1) k 1)) hlt hst' (by simp only [fL,hb,bQ,if_false];exact hPb) hS' fun v' h'' tk'' hP' hk''=>?_⟩
   exact hR v' h'' tk'' hP' fun b o hbw hbS e=>hk'' b o hbw hbS (hk' b o hbw e)
theorem uv (W:Walks af w A.in1 I fp wr n P St) (bt:Nat→Nat→Bool) (hcmp:CmpOf af w A.in1 .Lt P bt) (S:Addr) (hSf:S∉fp) (x:Str) (d:Value) {s:az} {c:Nat} (hst:St 0 s.heap) (hS:s.heap.get? S=some { cls:=.type "list",dict:=none,data:=.seq #[] c,slots:=#[] })
  (hR:∀ v h' tk,(n=0→v=d)→(0<n→P (fL bt (n - 1)) v)→(∀ b o,b∉wr→b≠S→s.heap.get? b=some o→h'.get? b=some o)→R (.ok (.ret v)) { s with heap:=h',toks:=tk }) :
  rn (model af w) A (.builtin "min.loop" ⟨[.ref I,.none,.ref S],[(x,d)]⟩) R s:=by
 have hSw:S∉wr:=fun h=>hSf (W.sub _ h)
 have hname:(toString "min"++toString ".loop":String)="min.loop":=by decide
 refine iI vo ?_
 rw [gy d5 _]
 show wpAny _ A.in1 (seqItems? (.ref S) >>= _) _ _ s
 refine ag (fT hS rfl ?_)
 show wpAny _ A.in1 (tryCatch (oA (.ref I)) _ >>= _) _ _ s
 by_cases hn:0<n
 ·refine ag (eM (W.item 0 s _ _ hn hst fun v h' tk hP hst' hk'=>?_))
  have hS':=hk' S _ hSw hS
  show wpAny _ A.in1 (yO S (fun ux=>#[v,v]) >>= _) _ _ _
  refine ag (fg hS' rfl ?_)
  rw [hname]
  refine aB ⟨gz d5 _,xy W bt hcmp S hSf _ (n - (0+1)) 0 _ v _ (cY hn).symm hn (W.frame _ _ _ hst' fun b hbf o e=>?_) hP (cg _ hS' rfl) fun v' h'' tk'' hP' hk''=>?_⟩
  ·exact (aP _ _ (fun h:S=b=>hSf (by rw [h];exact hbf))).trans e
  ·exact hR v' h'' tk'' (fun z=>absurd z (by (exact d7 (by assumption)))) (fun ux=>hP') fun b o hbw hbS e=>hk'' b o hbw hbS ((aP _ _ (bl hbS)).trans (hk' b o hbw e))
 ·have hn0:n=0:=by lia
  refine ag (eM (W.done s _ _ (hn0▸hst) fun h' tk hk'=>?_))
  show wpAny _ A.in1 (rule _ >>= fun ux=>ret d) _ _ _
  refine ag (rW (aB ?_))
  exact hR d h' tk (fun ux=>rfl) (fun z=>absurd z hn) fun b o hbw ux e=>hk' b o hbw e
end
section
variable {A:dM} {E:Value→az→Prop} {s:az}
theorem yx (a d:Value):argsOk "min" ⟨[a],[(aa "default",d)]⟩:=by unfold argsOk;kernel_rfl
theorem yr {l:Addr} {xs:Array (Int×Tok)} {d:Value} {Q:Value→az→Prop} (hh:A.handled=none) (hl:s.heap.IsList l (dZ xs))
  (h:∀ v h' tk,(xs.size=0→v=d)→(0<xs.size→(dZ xs)[fL (fun i j=>decide (numAt xs i<numAt xs j)) (xs.size - 1)]?=some v)→(∀ b o,s.heap.get? b=some o→h'.get? b=some o)→Q v { s with heap:=h',toks:=tk }) :
  wpAny (model af w) A (call (.builtin "min") [.ref l] [(aa "default",d)]) Q E s:=by
 have hname:(toString "min"++toString ".loop":String)="min.loop":=by decide
 refine nZ PySem.F.kind_min PySem.F.plain_min PySem.F.entry_min (yx _ _) ?_
 show wpAny _ A.in1 (i6 "min" ["key","default"] 0 ⟨[],[(aa "default",d)]⟩ >>= _) _ _ s
 refine ag (oV (show i6 "min" ["key","default"] 0 ⟨[],[(aa "default",d)]⟩=pure [none,some d] from rfl) ?_)
 refine ag (aB ?_)
 refine ag (iter_intList hl fun s₂ e st hfp hlI=>?_)
 subst e
 refine ag (iX ?_)
 have W:=Walks.list (prog:=af) (w:=w) (A:=A.in1) hh s.heap.objs.size l hlI (dZ xs)
 have hSf:(s.heap.push { cls:=.type "list_iterator",data:=.fields #[.ref l,.int 0 0] }).objs.size∉[s.heap.objs.size,l]:=fun hm=>ba _ (hfp _ hm)
 rw [hname]
 refine aB ⟨gz d5 _,uv W _ (CmpOf.ints_lt (numAt xs) (fun ux ux=>intItems_at)) _ hSf _ d (W.frame _ _ _ st fun b ux o e=>aq _ e) (aS _ rfl) fun v h' tk h0 h1 hk=>?_⟩
 have sz:(dZ xs).size=xs.size:=by simp [dZ]
 rw [sz] at h0 h1
 exact h v h' tk h0 h1 fun b o e=>hk b o (fun hm=>absurd (bq e) (by rw [aC.mp hm];exact ba _)) (fun z=>absurd (bq (aq { cls:=.type "list_iterator",data:=.fields #[.ref l,.int 0 0] } e)) (by rw [z];exact ba _)) (aq _ (aq _ e))
end
section
variable {A:dM} {R:Result→az→Prop} {I:Addr} {fp wr:List Addr} {n:Nat} {P:Nat→Value→Prop} {St:Nat→Heap→Prop}
theorem xz (W:Walks af w A.in1 I fp wr n P St) (bt:Nat→Nat→Bool) (hcmp:CmpOf af w A.in1 .Gt P bt) (S:Addr) (hSf:S∉fp) (kw:List (Str×Value)) :
  ∀ (k j:Nat) (s:az) (vb:Value) (c:Nat),n=j+1+k→j+1≤n→St (j+1) s.heap→P (fL bt j) vb→s.heap.get? S=some { cls:=.type "list",dict:=none,data:=.seq #[vb,vb] c,slots:=#[] } →
  (∀ v h' tk,P (fL bt (n - 1)) v→(∀ b o,b∉wr→b≠S→s.heap.get? b=some o→h'.get? b=some o)→R (.ok (.ret v)) { s with heap:=h',toks:=tk })→rn (model af w) A (.builtin "max.loop" ⟨[.ref I,.none,.ref S],kw⟩) R s:=by
 have hSw:S∉wr:=fun h=>hSf (W.sub _ h)
 have hname:(toString "max"++toString ".loop":String)="max.loop":=by decide
 intro k
 induction k with
 |zero =>
  intro j s vb c hk hj hst hPb hS hR
  have hin:j+1=n:=hk.symm
  refine iI vp ?_
  rw [gy d6 _]
  show wpAny _ A.in1 (seqItems? (.ref S) >>= _) _ _ s
  refine ag (fT hS rfl ?_)
  show wpAny _ A.in1 (tryCatch (oA (.ref I)) _ >>= _) _ _ s
  refine ag (eM (W.done s _ _ (hin▸hst) fun h' tk hk'=>?_))
  have hS':=hk' S _ hSw hS
  show wpAny _ A.in1 (yO S (fun ux=>#[]) >>= _) _ _ _
  refine ag (fg hS' rfl (ag (ie (aB ?_))))
  exact hR vb _ tk (by rw [← hin];exact hPb) fun b o hbw hbS e=>(aP _ _ (bl hbS)).trans (hk' b o hbw e)
 |succ k ih =>
  intro j s vb c hk hj hst hPb hS hR
  have hlt:j+1<n:=by rw [hk];exact Nat.lt_add_of_pos_right (vt k)
  refine iI vp ?_
  rw [gy d6 _]
  show wpAny _ A.in1 (seqItems? (.ref S) >>= _) _ _ s
  refine ag (fT hS rfl ?_)
  show wpAny _ A.in1 (tryCatch (oA (.ref I)) _ >>= _) _ _ s
  refine ag (eM (W.item (j+1) s _ _ hlt hst fun v h' tk hP hst' hk'=>?_))
  have hS':=hk' S _ hSw hS
  show wpAny _ A.in1 (tryCatch (Cz [v,v] (richCompare .Gt v vb >>= _)) _ >>= _) _ _ _
  refine ag (eM (dq (ag (hcmp (j+1) (fL bt j) v vb _ _ _ hP hPb ?_))))
  refine ag (dq (eY ?_))
  refine ag (ie (aB ?_))
  cases hb:bt (j+1) (fL bt j) with
  |true =>
   simp only [if_true]
   refine ag (fg hS' rfl (ag (ie ?_)))
   rw [hname]
   refine aB ⟨gz d6 _,ih (j+1) _ v _ (hk.trans (gT (j+1) k 1)) hlt (W.frame _ _ _ hst' fun b hbf o e=>(aP _ _ (fun h:S=b=>hSf (by rw [h];exact hbf))).trans e) (by simp only [fL,hb,if_true];exact hP) (cg _ hS' rfl) fun v' h'' tk'' hP' hk''=>?_⟩
   exact hR v' h'' tk'' hP' fun b o hbw hbS e=>hk'' b o hbw hbS ((aP _ _ (bl hbS)).trans (hk' b o hbw e))
  |false =>
   simp only [bQ,if_false]
   refine ag (ie ?_)
   rw [hname]
   refine aB ⟨gz d6 _,ih (j+1) _ vb c (hk.trans (gT (j+1) k 1)) hlt hst' (by simp only [fL,hb,bQ,if_false];exact hPb) hS' fun v' h'' tk'' hP' hk''=>?_⟩
   exact hR v' h'' tk'' hP' fun b o hbw hbS e=>hk'' b o hbw hbS (hk' b o hbw e)
theorem uA (W:Walks af w A.in1 I fp wr n P St) (bt:Nat→Nat→Bool) (hcmp:CmpOf af w A.in1 .Gt P bt) (S:Addr) (hSf:S∉fp) (x:Str) (d:Value) {s:az} {c:Nat} (hst:St 0 s.heap) (hS:s.heap.get? S=some { cls:=.type "list",dict:=none,data:=.seq #[] c,slots:=#[] })
  (hR:∀ v h' tk,(n=0→v=d)→(0<n→P (fL bt (n - 1)) v)→(∀ b o,b∉wr→b≠S→s.heap.get? b=some o→h'.get? b=some o)→R (.ok (.ret v)) { s with heap:=h',toks:=tk }) :
  rn (model af w) A (.builtin "max.loop" ⟨[.ref I,.none,.ref S],[(x,d)]⟩) R s:=by
 have hSw:S∉wr:=fun h=>hSf (W.sub _ h)
 have hname:(toString "max"++toString ".loop":String)="max.loop":=by decide
 refine iI vp ?_
 rw [gy d6 _]
 show wpAny _ A.in1 (seqItems? (.ref S) >>= _) _ _ s
 refine ag (fT hS rfl ?_)
 show wpAny _ A.in1 (tryCatch (oA (.ref I)) _ >>= _) _ _ s
 by_cases hn:0<n
 ·refine ag (eM (W.item 0 s _ _ hn hst fun v h' tk hP hst' hk'=>?_))
  have hS':=hk' S _ hSw hS
  show wpAny _ A.in1 (yO S (fun ux=>#[v,v]) >>= _) _ _ _
  refine ag (fg hS' rfl ?_)
  rw [hname]
  refine aB ⟨gz d6 _,xz W bt hcmp S hSf _ (n - (0+1)) 0 _ v _ (cY hn).symm hn (W.frame _ _ _ hst' fun b hbf o e=>?_) hP (cg _ hS' rfl) fun v' h'' tk'' hP' hk''=>?_⟩
  ·exact (aP _ _ (fun h:S=b=>hSf (by rw [h];exact hbf))).trans e
  ·exact hR v' h'' tk'' (fun z=>absurd z (by (exact d7 (by assumption)))) (fun ux=>hP') fun b o hbw hbS e=>hk'' b o hbw hbS ((aP _ _ (bl hbS)).trans (hk' b o hbw e))
 ·have hn0:n=0:=by lia
  refine ag (eM (W.done s _ _ (hn0▸hst) fun h' tk hk'=>?_))
  show wpAny _ A.in1 (rule _ >>= fun ux=>ret d) _ _ _
  refine ag (rW (aB ?_))
  exact hR d h' tk (fun ux=>rfl) (fun z=>absurd z hn) fun b o hbw ux e=>hk' b o hbw e
end
section
variable {A:dM} {E:Value→az→Prop} {s:az}
theorem yy (a d:Value):argsOk "max" ⟨[a],[(aa "default",d)]⟩:=by unfold argsOk;kernel_rfl
theorem ys {l:Addr} {xs:Array (Int×Tok)} {d:Value} {Q:Value→az→Prop} (hh:A.handled=none) (hl:s.heap.IsList l (dZ xs))
  (h:∀ v h' tk,(xs.size=0→v=d)→(0<xs.size→(dZ xs)[fL (fun i j=>decide (numAt xs i > numAt xs j)) (xs.size - 1)]?=some v)→(∀ b o,s.heap.get? b=some o→h'.get? b=some o)→Q v { s with heap:=h',toks:=tk }) :
  wpAny (model af w) A (call (.builtin "max") [.ref l] [(aa "default",d)]) Q E s:=by
 have hname:(toString "max"++toString ".loop":String)="max.loop":=by decide
 refine nZ PySem.F.kind_max PySem.F.plain_max PySem.F.entry_max (yy _ _) ?_
 show wpAny _ A.in1 (i6 "max" ["key","default"] 0 ⟨[],[(aa "default",d)]⟩ >>= _) _ _ s
 refine ag (oV (show i6 "max" ["key","default"] 0 ⟨[],[(aa "default",d)]⟩=pure [none,some d] from rfl) ?_)
 refine ag (aB ?_)
 refine ag (iter_intList hl fun s₂ e st hfp hlI=>?_)
 subst e
 refine ag (iX ?_)
 have W:=Walks.list (prog:=af) (w:=w) (A:=A.in1) hh s.heap.objs.size l hlI (dZ xs)
 have hSf:(s.heap.push { cls:=.type "list_iterator",data:=.fields #[.ref l,.int 0 0] }).objs.size∉[s.heap.objs.size,l]:=fun hm=>ba _ (hfp _ hm)
 rw [hname]
 refine aB ⟨gz d6 _,uA W _ (CmpOf.ints_gt (numAt xs) (fun ux ux=>intItems_at)) _ hSf _ d (W.frame _ _ _ st fun b ux o e=>aq _ e) (aS _ rfl) fun v h' tk h0 h1 hk=>?_⟩
 have sz:(dZ xs).size=xs.size:=by simp [dZ]
 rw [sz] at h0 h1
 exact h v h' tk h0 h1 fun b o e=>hk b o (fun hm=>absurd (bq e) (by rw [aC.mp hm];exact ba _)) (fun z=>absurd (bq (aq { cls:=.type "list_iterator",data:=.fields #[.ref l,.int 0 0] } e)) (by rw [z];exact ba _)) (aq _ (aq _ e))
end
section
variable {K:Frag} {cx:CX} {sc:Scope} {n:Nat} {σ σ':AS} {Q:AV→AS→Prop} {E:Value→AS→Prop} {pos:Pos}
theorem Eo (hh:cx.A.handled=none) {x:Addr} {ns:List Int} {d:Int} (hx:σ.lst x (ns.map AV.int)) (h:∀ v,(ns=[]→v=d)→(ns≠[]→v∈ns∧∀ a∈ns,v≤a)→Q (.int v) σ):WKw af w cx "min" (aa "default") (.ref x) (.int d) σ Q E:=fun s va vb r p1 p2=>by
 rw [show va = .ref x from p1]
 obtain ⟨td,rfl⟩:=p2
 obtain ⟨us,hl,q⟩:=r.lst hx
 have hi:=kx q
 obtain ⟨xs,hxs⟩:=hi.allInts.items
 have hl':s.heap.IsList x (dZ xs):=hxs▸hl
 have e1:ns=xs.toList.map (·.1):=by
  rw [← nums_intItems,← hxs]
  exact (show numsOf us.toArray.toList=ns from hi.numsOf).symm
 have hsz:xs.size=ns.length:=by rw [e1];simp
 refine yr hh hl' fun v h' tk h0 h1 hk=>?_
 by_cases hn:ns=[]
 ·rw [h0 (by rw [hsz,hn];rfl)]
  exact ⟨.int d,σ,r.grow (tk:=tk) hk,cQ,VM.of_keeps hk,h d (fun ux=>rfl) fun z=>absurd hn z⟩
 ·have hpos:0<ns.length:=gf.mpr hn
  obtain ⟨t,rfl⟩:=intItems_at (h1 (by omega))
  obtain ⟨h2,h3⟩:=argBest_lt (numAt xs) (xs.size - 1)
  refine ⟨.int _,σ,r.grow (tk:=tk) hk,cQ,VM.of_keeps hk,h _ (fun z=>absurd z hn) fun ux=>⟨?_,fun a ha=>?_⟩⟩
  ·rw [e1,numAt_eq];exact getD_mem (by rw [aj,aD];omega)
  ·rw [e1] at ha
   obtain ⟨j,hj,rfl⟩:=mem_getD ha
   rw [aj,aD] at hj
   rw [← numAt_eq];exact h3 j (by omega)
theorem Ep (hh:cx.A.handled=none) {x:Addr} {ns:List Int} {d:Int} (hx:σ.lst x (ns.map AV.int)) (h:∀ v,(ns=[]→v=d)→(ns≠[]→v∈ns∧∀ a∈ns,a≤v)→Q (.int v) σ):WKw af w cx "max" (aa "default") (.ref x) (.int d) σ Q E:=fun s va vb r p1 p2=>by
 rw [show va = .ref x from p1]
 obtain ⟨td,rfl⟩:=p2
 obtain ⟨us,hl,q⟩:=r.lst hx
 have hi:=kx q
 obtain ⟨xs,hxs⟩:=hi.allInts.items
 have hl':s.heap.IsList x (dZ xs):=hxs▸hl
 have e1:ns=xs.toList.map (·.1):=by
  rw [← nums_intItems,← hxs]
  exact (show numsOf us.toArray.toList=ns from hi.numsOf).symm
 have hsz:xs.size=ns.length:=by rw [e1];simp
 refine ys hh hl' fun v h' tk h0 h1 hk=>?_
 by_cases hn:ns=[]
 ·rw [h0 (by rw [hsz,hn];rfl)]
  exact ⟨.int d,σ,r.grow (tk:=tk) hk,cQ,VM.of_keeps hk,h d (fun ux=>rfl) fun z=>absurd hn z⟩
 ·have hpos:0<ns.length:=gf.mpr hn
  obtain ⟨t,rfl⟩:=intItems_at (h1 (by omega))
  obtain ⟨h2,h3⟩:=argBest_gt (numAt xs) (xs.size - 1)
  refine ⟨.int _,σ,r.grow (tk:=tk) hk,cQ,VM.of_keeps hk,h _ (fun z=>absurd z hn) fun ux=>⟨?_,fun a ha=>?_⟩⟩
  ·rw [e1,numAt_eq];exact getD_mem (by rw [aj,aD];omega)
  ·rw [e1] at ha
   obtain ⟨j,hj,rfl⟩:=mem_getD ha
   rw [aj,aD] at hj
   rw [← numAt_eq];exact h3 j (by omega)
end
noncomputable def bg (j:Nat) (l:List Int):Int:=((l.filter fun s=>decide ((2:Int) ^ j≤s)).map fun s=>s / 2 ^ j).sum
theorem rE {j:Nat} {l:List (Int×Int)}:fi j l=bg j (l.map (·.2)):=by
 unfold fi bg
 rw [List.filter_map,bn]
 rfl
theorem rF {j:Nat} {l:List Int}:bg j l=fi j (l.map fun s=>(0,s)):=by
 rw [rE,bn]
 have:((fun x:Int×Int=>x.2) ∘ fun s:Int=>(0,s))=id:=rfl
 rw [this,jZ]
theorem Dg {j:Nat} {l m:List Int} (h:l.Perm m):bg j l=bg j m:=by rw [rF,rF,jt (h.map _)]
theorem yw {j:Nat} {l m:List Int}:bg j (l++m)=bg j l+bg j m:=by unfold bg;rw [dH,bu,List.sum_append]
theorem bg_nn {j:Nat} {l:List Int} (h:∀ s∈l,0<s):0≤bg j l:=by
 rw [rF]
 refine rC fun p hp=>?_
 obtain ⟨s,hs,rfl⟩:=bx.mp hp
 exact h s hs
theorem E1 {j:Nat} {r:List Int} (h:∀ s∈r,0<s):1≤bg j ((2:Int) ^ j::r):=by
 have:bg j ((2:Int) ^ j::r)=1+bg j r:=by
  unfold bg
  rw [List.filter_cons_of_pos (by simp),aM,f0,Int.ediv_self (Int.ne_of_gt (dI j))]
 rw [this]
 have:=bg_nn (j:=j) h
 lia
noncomputable def um (vs:List Int):List Int:=vs.map fun v=>(2:Int) ^ fe v
theorem BS {vs:List Int}:(upTo vs.length).map (iU vs)=vs:=by
 apply kW
 intro i
 unfold upTo
 rw [bn,aR]
 by_cases h:i<vs.length
 ·rw [om h,aO h]
  simp only [Option.map_some,Function.comp]
  unfold iU
  rw [List.getD_eq_getElem?_getD,fX,aO h]
  rfl
 ·rw [ek (by rw [cC];(exact Fb.mp (by assumption))),ek (by (exact Fb.mp (by assumption)))]
  rfl
theorem vQ {vs ms:List Int} {j:Nat} (ho:Ord vs ms):bg j (um vs)=bg j (ms.map fun i=>(2:Int) ^ fe (iU vs i)):=by
 rw [Dg (ho.p.map fun i=>(2:Int) ^ fe (iU vs i))]
 unfold um
 conv=>lhs;rw [← BS (vs:=vs)]
 rw [bn]
 rfl
theorem vY {vs:List Int} {d:List (Int×Int)}:(ka vs d).map (·.2)=(d.map (·.1)).map fun i=>(2:Int) ^ fe (iU vs i):=by
 unfold ka
 rw [bn,bn]
 rfl
theorem Aw {k j:Nat} {t t':BT k} {sp sp' hd hs d:List (Int×Int)} {vs:List Int} (R:hV t sp hd) (hc:cn t) (ho:Ord vs (d.map (·.1))) (R':hV t' sp' (hd++ka vs d)) (hc':cn t') (hp:hs.Perm hd) (hj:j≤k) {m:Nat} (hm:gw (dG j hs) m) :
  bg j (um vs)≤2 ^ k / 2 ^ j - (fi j hs+m):=by
 have:=sy R hc R' hc' hj (jo hp hm)
 rw [rE,vY,← vQ ho] at this
 rw [jt hp]
 exact this
theorem o6 {k:Nat} {t:BT k} {sp hd hs:List (Int×Int)} {vs:List Int} (R:hV t sp hd) (hc:cn t) (st:oh k hd vs) (hv:∀ v∈vs,1≤v∧v≤2 ^ k) (hp:hs.Perm hd) :
  ∃ j,j≤k∧∀ m,gw (dG j hs) m→2 ^ k / 2 ^ j - (fi j hs+m)<bg j (um vs):=by
 obtain ⟨ms,d,t1,sp1,p,ho,hm,hpm,R1,c1,hf⟩:=st
 obtain ⟨h0,h1,_⟩:=oN ho hm hpm
 have hvp:=hv _ (mo h0 h1)
 have hjk:fe (iU vs p)≤k:=(jN _ k).mpr hvp.2
 refine ⟨fe (iU vs p),hjk,fun m dm=>?_⟩
 obtain ⟨hi,hp'⟩:=aF.mp hpm
 have hms:ms=ms.take d.length++p::ms.drop (d.length+1):=by rw [← hp',← cP hi,aG]
 have hg:∀ q∈ka vs d,(2:Int) ^ fe (iU vs p)≤q.2:=fun q hq=>by
  unfold ka at hq
  obtain ⟨r,hr,rfl⟩:=bx.mp hq
  have hs:=ho.s
  rw [hms,aA] at hs
  have:=hs.2.2 r.1 (by rw [← hm];exact bx.mpr ⟨r,hr,rfl⟩) p (.head _)
  unfold n6 xh at this
  show _≤(2:Int) ^ fe (iU vs r.1)
  lia
 have full:=xA R hc R1 c1 hjk (jo hp dm) hg hf
 rw [jt hp,← full,vQ ho]
 conv=>rhs;rw [hms]
 rw [bu,yw,rE,vY,hm,aM]
 have:=E1 (j:=fe (iU vs p)) (r:=(ms.drop (d.length+1)).map fun i=>(2:Int) ^ fe (iU vs i)) fun s hs=>by
  obtain ⟨i,_,rfl⟩:=bx.mp hs
  exact dI _
 lia
section
variable {K:Frag} {cx:CX} {sc:Scope} {n:Nat} {σ σ':AS} {Q:AV→AS→Prop} {QB:Bool→AS→Prop} {QF:AF→AS→Prop} {E:Value→AS→Prop} {pos:Pos}
inductive w' (Q:AV→AS→Prop) (l:List AV) (σ:AS):Prop
 |mk (z u:Addr) (k:Nat) (hs:List (Int×Int)) (vs:List Int) (hl:l=[.ref z,.ref u,.int (2 ^ k)]) (hk:k≤60) (hz:σ.hp z=some (.list (hs.map eC))) (hu:σ.hp u=some (.list (vs.map AV.int))) (hlen:hs.length≤1000) (hvl:vs.length≤1000)
  (h1:(∃ v∈vs,v<1)→Q (.str (aa "wish")) σ) (h2:(∀ v∈vs,1≤v)→(∃ v∈vs,2 ^ k<v)→Q (.str (aa "room")) σ)
  (h3:(∀ v∈vs,1≤v∧v≤2 ^ k)→(∃ j m,j≤k∧gw (dG j hs) m∧2 ^ k / 2 ^ j - (fi j hs+m)<bg j (um vs))→Q (.str (aa "room")) σ)
  (h4:(∀ v∈vs,1≤v∧v≤2 ^ k)→(∀ j,j≤k→∃ m,gw (dG j hs) m∧bg j (um vs)≤2 ^ k / 2 ^ j - (fi j hs+m))→Q (.str (aa "")) σ):w' Q l σ
inductive tW (K:Frag) (P:Addr) (pos:Pos) (qual:Str) (Q:AV→AS→Prop) (l:List AV) (σ:AS):Prop
 |mk (y u:Addr) (k:Nat) (t:BT k) (C dx S H:Addr) (sp hd:List (Int×Int)) (vs:List Int) (hl:l=[.ref y,.ref u]) (hY:Yd K σ y k t C dx S H sp hd) (hu:σ.hp u=some (.list (vs.map AV.int))) (hlen:hd.length+vs.length≤2 ^ 14) (ga:GA P pos qual σ)
  (hw:(∃ v∈vs,v<1)→∀ σ' r,σ.Sub σ'→σ'.loc=σ.loc→σ'.hp r=some (.list [])→Q (.tup [.str (aa "wish"),.ref r]) σ')
  (hn:((∀ v∈vs,1≤v)∧(∃ v∈vs,2 ^ k<v))∨((∀ v∈vs,1≤v∧v≤2 ^ k)∧oh k hd vs)→∀ σ' r sp',σ'.loc=σ.loc→Yd K σ' y k t C dx S H sp' hd→σ.But3 P S H σ'→GA P pos qual σ'→σ'.hp r=some (.list [])→Q (.tup [.str (aa "room"),.ref r]) σ')
  (hq:(∀ v∈vs,1≤v∧v≤2 ^ k)→∀ d,Ord vs (d.map (·.1))→ic k hd vs d→∀ σ' r t' sp',σ'.loc=σ.loc→Yd K σ' y k t' C dx S H sp' (hd++ka vs d)→σ'.hp r=some (.list ((upTo vs.length).map fun i=>AV.int (iY d i)))→σ.But3 P S H σ'→GA P pos qual σ'→(∀ a o,a≠P→a≠S→a≠H→σ.hp a=some o→a≠r)→Q (.tup [.str (aa ""),.ref r]) σ'):tW K P pos qual Q l σ
end
noncomputable def fitF:AV→AV
 | .int v=> .int (2 ^ fe v)
 |v=>v
theorem yb {vs:List Int}:((vs.map AV.int).filter fun ux=>true).map fitF=(um vs).map AV.int:=by
 rw [bS.mpr fun ux ux=>rfl]
 unfold um
 rw [bn,bn]
 rfl
noncomputable def bgP (s:Int):AV→Bool
 | .int p=>decide (s≤p)
 |_=>false
noncomputable def bgF (s:Int):AV→AV
 | .int p=> .int (p / s)
 |v=>v
theorem CR {l:List Int} {s:Int}:((l.map AV.int).filter (bgP s)).map (bgF s)=((l.filter fun p=>decide (s≤p)).map fun p=>p / s).map AV.int:=by
 rw [List.filter_map,bn,bn]
 rfl
inductive D1I (σ₀:AS) (z D:Addr) (k:Nat) (hs:List (Int×Int)) (vs:List Int) (m:Nat) (σ:AS):Prop
 |mk (j:Nat) (hm:m=k+1 - j) (hj:j≤k+1) (ok:∀ i,i<j→∃ m,gw (dG i hs) m∧bg i (um vs)≤2 ^ k / 2 ^ i - (fi i hs+m)) (ls:σ.loc (aa "_law_size")=some (.int (2 ^ j))) (lh:σ.loc (aa "_law_held")=some (.ref z)) (lc:σ.loc (aa "_law_cells")=some (.int (2 ^ k))) (lf:σ.loc (aa "_law_fitting_here")=some (.ref D)) (hz:σ.hp z=some (.list (hs.map eC))) (hD:σ.hp D=some (.list ((um vs).map AV.int))) (sub:σ₀.Sub σ):D1I σ₀ z D k hs vs m σ
section
variable {K:Frag} {cx:CX} {sc:Scope} {n:Nat} {σ σ':AS} {Q:AV→AS→Prop} {QB:Bool→AS→Prop} {QF:AF→AS→Prop} {E:Value→AS→Prop} {pos:Pos}
theorem tx {b:Bool} (h:Q (.int (if b then 1 else 0)) σ):gd af w cx (.type "int") [.bool b] σ Q E:=fun s vs r hv=>by
 obtain ⟨v,rfl,p⟩:=ke hv
 rw [show v = .bool b from p]
 exact call_int_bool (j8 r cQ h)
theorem sG {ws:List Int} {a b:Nat} {v:Int}:(ws.map AV.int).take a++[AV.int v]++(ws.map AV.int).drop b=(ws.take a++[v]++ws.drop b).map AV.int:=by
 rw [bu,bu,List.map_take,List.map_drop];rfl
theorem mP {ws:List Int} (h:ws.length≤100):(ws.map AV.int).length≤aH:=by
 rw [aj]
 exact aI h (by decide)
theorem s7 {ws:List Int} {a:Nat} {v:AV} (h:ws.length≤100):((ws.map AV.int).take a).length+[v].length≤aH:=by
 have e:aH=2 ^ 24:=rfl
 rw [bh,aj,bB]
 lia
theorem s6 {ws:List Int} {a b:Nat} {v:AV} (h:ws.length≤100):((ws.map AV.int).take a++[v]).length+((ws.map AV.int).drop b).length≤aH:=by
 rw [au,bh,bp,aj,bB]
 exact aI (Nat.add_le_add (cW (aI (Nat.min_le_right _ _) h)) (aI (eu _ _) h)) (am rfl)
theorem AP {ws:List Int} {j v:Int} (h0:0≤j) (h1:j<ws.length):(ws.take j.toNat++[v]++ws.drop (j+1).toNat).length=ws.length:=by
 obtain ⟨i,rfl⟩:=tQ h0
 have hi:i<ws.length:=Int.ofNat_lt.mp h1
 rw [au,au,bh,bp,bB,fX,show ((i:Int)+1).toNat=i+1 from rfl,bR (b7 hi)]
 exact cY hi
theorem AQ {ws:List Int} {j v:Int} (h0:0≤j) (h1:j<(ws.length:Int)+1):(ws.take j.toNat++[v]++ws.drop j.toNat).length=ws.length+1:=by
 obtain ⟨i,rfl⟩:=tQ h0
 have hi:i≤ws.length:=Int.ofNat_le.mp (Int.le_of_lt_add_one h1)
 rw [au,au,bh,bp,bB,fX,bR hi,gT,cY hi]
theorem Ei {v:Int} {n:Nat} (h:0<n):0≤v % (n:Int)∧v % (n:Int)<n:=⟨jB _ (by lia),fE _ (by lia)⟩
theorem Ck {v:Int} {n:Nat}:0≤v % ((n:Int)+1)∧v % ((n:Int)+1)<(n:Int)+1:=⟨jB _ (by lia),fE _ (by lia)⟩
theorem EP {ws:List Int} {j:Int} (h0:0≤j) (h1:j<ws.length):fh (ws.map AV.int).length j=j.toNat∧fh (ws.map AV.int).length (j+1)=(j+1).toNat:=by
 rw [aj]
 exact ⟨rv h0 (by lia),rv (by lia) (by lia)⟩
theorem EO {ws:List Int} {j:Int} (h0:0≤j) (h1:j<(ws.length:Int)+1):fh (ws.map AV.int).length j=j.toNat:=by
 rw [aj]
 exact rv h0 (by lia)
theorem ze {ws:List Int} (h:ws.length≤100):((ws.map AV.int).length:Int)<2 ^ 63:=by
 rw [aj]
 lia
theorem yZ {l:List AV}:0<(l.length:Int)+1:=by lia
theorem Cn {a:Int}:0<max 1 a:=by omega
inductive t6 (Q:AV→AS→Prop) (l:List AV) (σ:AS):Prop
 |mk (x:Addr) (c:Int) (ns:List Int) (hl:l=[.int c,.ref x]) (hx:σ.hp x=some (.list (ns.map AV.int))) (hn:ns.length≤63) (hq:∀ (vs:List Int) r σ',vs.length≤100→σ.Sub σ'→σ'.loc=σ.loc→σ'.hp r=some (.list (vs.map AV.int))→Q (.ref r) σ'):t6 Q l σ
inductive HlI (σ₀:AS) (x:Addr) (ns:List Int) (i:Nat) (σ:AS):Prop
 |mk (z:Addr) (ws:List Int) (hz:σ.hp z=some (.list (ws.map AV.int))) (h0:0<ws.length) (hl:ws.length≤i+1) (lz:σ.loc (aa "_law_wants")=some (.ref z)) (hx:σ.hp x=some (.list (ns.map AV.int))) (sub:σ₀.Sub σ):HlI σ₀ x ns i σ
inductive tU (Q:AV→AS→Prop) (l:List AV) (σ:AS):Prop
 |mk (x z:Addr) (k:Nat) (ns:List Int) (hs:List (Int×Int)) (hl:l=[.ref x,.ref z,.int (2 ^ k)]) (hk:k≤60) (hx:σ.hp x=some (.ro (ns.map AV.int))) (hn:ns.length≤63) (hz:σ.hp z=some (.list (hs.map eC))) (hq:∀ (vs:List Int) r σ',vs.length≤300→σ.Sub σ'→σ'.loc=σ.loc→σ'.hp r=some (.list (vs.map AV.int))→Q (.ref r) σ'):tU Q l σ
inductive WsI (σ₀:AS) (x z:Addr) (k:Nat) (σ:AS):Prop
 |mk (c:Int) (l1:σ.loc (aa "_law_draw")=some (.int c)) (l2:σ.loc (aa "_law_script")=some (.ref x)) (l3:σ.loc (aa "_law_held")=some (.ref z)) (l4:σ.loc (aa "_law_cells")=some (.int (2 ^ k))) (sub:σ₀.Sub σ):WsI σ₀ x z k σ
inductive WtI (σ₀:AS) (k:Nat) (σ:AS):Prop
 |mk (c:Int) (r:Addr) (vs:List Int) (hl:vs.length≤100) (l1:σ.loc (aa "_law_draw")=some (.int c)) (l4:σ.loc (aa "_law_cells")=some (.int (2 ^ k))) (lw:σ.loc (aa "_law_wants")=some (.ref r)) (hr:σ.hp r=some (.list (vs.map AV.int))) (sub:σ₀.Sub σ):WtI σ₀ k σ
noncomputable def isI (_ u:AV):Prop:=∃ v,u = .int v
theorem kN:∀ {l us:List AV},m9 isI l us→∃ vs:List Int,us=vs.map AV.int∧vs.length=l.length
 |_,_,.nil=>⟨[],rfl,rfl⟩
 |_,_,.cons ⟨v,hv⟩ r=>by
  obtain ⟨vs,h1,h2⟩:=kN r
  subst hv h1
  exact ⟨v::vs,rfl,by rw [bj,bj,h2]⟩
end
noncomputable def mw (vs:List Int) (d:List (Int×Int)):Int:=((ka vs d).map (·.2)).sum
theorem ll {vs:List Int} {d:List (Int×Int)} {p:Int×Int}:mw vs (d++[p])=mw vs d+2 ^ fe (iU vs p.1):=by
 unfold mw
 rw [mM,bu,List.sum_append]
 simp
theorem B4 {f:Nat} {l:List Int} (h:∀ s∈l,s % (2:Int) ^ f=0):l.sum % (2:Int) ^ f=0:=by
 induction l with
 |nil=>simp
 |cons a l ih =>
  rw [f0,Int.add_emod,h a (.head _),ih fun s hs=>h s (.tail _ hs)]
  simp
theorem Cf {f g:Nat} (h:f≤g):(2:Int) ^ g % 2 ^ f=0:=by
 obtain ⟨c,rfl⟩:=tI h
 rw [Int.pow_add]
 exact Int.mul_emod_right _ _
structure Til (vs:List Int) (d:List (Int×Int)):Prop where
 nn:0≤mw vs d
 le:∀ q∈ka vs d,q.1+q.2≤mw vs d
 on:∀ c,0≤c→c<mw vs d→∃ q∈ka vs d,q.1≤c∧c<q.1+q.2
theorem Til.next {k i:Nat} {vs:List Int} {d:List (Int×Int)} {p:Int×Int} (h:Til vs (d.take i)) (ho:Ord vs (d.map (·.1))) (due:ic k [] vs d) (hp:d[i]?=some p):p.2=mw vs (d.take i):=by
 obtain ⟨t,sp,j,R,c,b,hle⟩:=due i p hp
 rw [List.nil_append] at R
 obtain ⟨hi,hp'⟩:=aF.mp hp
 have hd:d=d.take i++p::d.drop (i+1):=by rw [← hp',← cP hi,aG]
 refine B2 c h.nn (f:=fe (iU vs p.1)) (i:=j) ?_ ((jN _ k).mpr hle) (fun q hq=>h.le q (R.hd.mem_iff.mpr hq)) (fun c a b=>let ⟨q,m,n⟩:=h.on c a b;⟨q,R.hd.mem_iff.mp m,n⟩) b.1 fun q hq w=>(b.2.2 q hq w).1
 unfold mw
 refine B4 fun s hs=>?_
 unfold ka at hs
 rw [bn] at hs
 obtain ⟨r,hr,rfl⟩:=bx.mp hs
 refine Cf (iE.mp ?_)
 have hs:=ho.s
 rw [hd,bu,aA] at hs
 have:=hs.2.2 r.1 (bx.mpr ⟨r,hr,rfl⟩) p.1 (.head _)
 unfold n6 xh at this
 lia
theorem r8 {k:Nat} {vs:List Int} {d:List (Int×Int)} (ho:Ord vs (d.map (·.1))) (due:ic k [] vs d):∀ i,i≤d.length→Til vs (d.take i)
 |0,_=>by
  rw [iQ]
  exact ⟨ee _,fun q hq=>(nomatch hq),fun c h0 h1=>absurd h1 (by show ¬ c<0;lia)⟩
 |i+1,hi=>by
  have ih:=r8 ho due i (by lia)
  have hp:d[i]?=some d[i]:=aO hi
  have hx:=ih.next ho due hp
  rw [cZ hi]
  have hs:=dI (fe (iU vs d[i].1))
  obtain ⟨h1,h2,h3⟩:=ih
  refine ⟨by rw [ll];lia,fun q hq=>?_,fun c h0 hc=>?_⟩
  ·rw [mM] at hq
   rw [ll]
   rcases ay.mp hq with w|w
   ·have:=h2 q w;lia
   ·rw [aC.mp w,← hx];exact ee _
  ·rw [ll] at hc
   rw [mM]
   rcases Int.lt_or_le c (mw vs (d.take i)) with w|w
   ·obtain ⟨q,m,n⟩:=h3 c h0 w
    exact ⟨q,ay.mpr (.inl m),n⟩
   ·exact ⟨_,ay.mpr (.inr (.head _)),by rw [hx];exact w,by rw [hx];exact hc⟩
section
variable {K:Frag} {cx:CX} {sc:Scope} {n:Nat} {σ σ':AS} {Q:AV→AS→Prop} {QB:Bool→AS→Prop} {QF:AF→AS→Prop} {E:Value→AS→Prop} {pos:Pos}
inductive tV (Q:AV→AS→Prop) (l:List AV) (σ:AS):Prop
 |mk (u:Addr) (k:Nat) (vs:List Int) (d:List (Int×Int)) (hl:l=[.ref u]) (hu:σ.hp u=some (.list (vs.map AV.int))) (hk:k≤60) (hv:∀ v∈vs,1≤v∧v≤2 ^ k) (hlen:vs.length≤300) (ho:Ord vs (d.map (·.1))) (due:ic k [] vs d) (hq:∀ r σ',σ.Sub σ'→σ'.loc=σ.loc→σ'.hp r=some (.list ((upTo vs.length).map fun i=>AV.int (iY d i)))→Q (.ref r) σ'):tV Q l σ
theorem ps_eq {n:Nat} {vs:List Int} {ps:List (Int×Int)} (h:ps.Perm ((upTo n).map (sD vs))):(ps.map (·.2)).map (sD vs)=ps:=by
 rw [bn]
 conv=>rhs;rw [← jZ ps]
 refine jc fun p hp=>?_
 obtain ⟨i,_,rfl⟩:=bx.mp (h.mem_iff.mp hp)
 rfl
inductive TnI (σ₀:AS) (D y:Addr) (vs:List Int) (d:List (Int×Int)) (i:Nat) (σ:AS):Prop
 |mk (hD:σ.hp D=some (.list ((upTo vs.length).map fun j=>AV.int (iY (d.take i) j)))) (hy:σ.hp y=some (.list ((d.map fun p=>sD vs p.1).map eC))) (lp:σ.loc (aa "_law_places")=some (.ref D)) (lb:σ.loc (aa "_law_behind_here")=some (.int (mw vs (d.take i)))) (sub:σ₀.Sub σ):TnI σ₀ D y vs d i σ
end
set_option tactic.hygienic true
section
variable {K:Frag} {cx:CX} {sc:Scope} {n:Nat} {σ σ':AS} {Q:AV→AS→Prop} {QB:Bool→AS→Prop} {QF:AF→AS→Prop} {E:Value→AS→Prop} {pos:Pos}
inductive BG (K:Frag) (Q:AV→AS→Prop) (l:List AV) (σ:AS):Prop
 |mk (y z u:Addr) (k:Nat) (t:BT k) (C dx S H:Addr) (sp hd hs:List (Int×Int)) (vs:List Int) (hl:l=[.ref y,.ref z,.int (2 ^ k),.ref u]) (hY:Yd K σ y k t C dx S H sp hd) (hz:σ.hp z=some (.list (hs.map eC))) (hu:σ.hp u=some (.list (vs.map AV.int))) (hp:hs.Perm hd) (hvl:vs.length≤300) (hq:Q (.bool true) σ):BG K Q l σ
end
set_option tactic.hygienic false
theorem uu {k:Nat} {t t0:BT k} {sp sp0 hd hd0:List (Int×Int)} {x s:Int} (R:hV t sp hd) (hc:cn t) (R0:hV t0 sp0 hd0) (c0:cn t0) (hp:hd0.Perm (hd++[(x,s)])) (hs:0<s):¬ oh k hd [1]:=fun st=>by
 have hk:=dI k
 obtain ⟨j,hj,h⟩:=o6 R hc st (fun v hv=>by rw [aC.mp hv];exact ⟨ee _,by lia⟩) (pP hd)
 obtain ⟨n',d',_⟩:=uj (j:=j) t (a:=0) hj hc (by simp)
 have dm:=jo R.hd.symm d'
 have lt:=h n' dm
 have fit:=sy (gs:=[(x,s)]) R hc ⟨R0.sp,hp.symm.trans R0.hd⟩ c0 hj dm
 have f1:fe 1=0:=Nat.le_zero.mp ((jN 1 0).mpr (by decide))
 have e1:um [1]=[1]:=by unfold um;rw [List.map_singleton,f1];rfl
 rw [e1] at lt
 cases j with
 |zero =>
  have b1:bg 0 [1]=1:=by decide
  have b2:fi 0 [(x,s)]=s:=by
   unfold fi
   rw [List.filter_cons_of_pos (by simp;lia)]
   simp
  rw [b1] at lt
  rw [b2] at fit
  lia
 |succ j =>
  have b1:bg (j+1) [1]=0:=by
   unfold bg
   rw [List.filter_cons_of_neg (by have:=dI j;rw [decide_eq_true_eq,eW];lia)]
   rfl
  have b2:=rC (j:=j+1) (l:=[(x,s)]) fun p hp=>by rw [aC.mp hp];exact hs
  rw [b1] at lt
  lia
theorem pf {k:Nat} {hd:List (Int×Int)}:¬ oh k hd []:=fun ⟨ms,d,t,sp,p,ho,hm,hp,_⟩=>by
 have:=ho.p.length_eq
 rw [dC] at this
 have:=(aF.mp hp).1
 simp only [fR] at *
 lia
section
variable {K:Frag} {cx:CX} {sc:Scope} {n:Nat} {σ σ':AS} {Q:AV→AS→Prop} {QB:Bool→AS→Prop} {QF:AF→AS→Prop} {E:Value→AS→Prop} {pos:Pos}
noncomputable def AS.But4 (σ:AS) (P S H r:Addr) (σ':AS):Prop:=∀ a o,a≠P→a≠S→a≠H→a≠r→σ.hp a=some o→σ'.hp a=some o
inductive t7 (K:Frag) (P:Addr) (pos:Pos) (qual:Str) (Q:AV→AS→Prop) (l:List AV) (σ:AS):Prop
 |mk (y r z:Addr) (k:Nat) (t:BT k) (C dx S H:Addr) (sp hd hs:List (Int×Int)) (ps:List Int) (hl:l=[.ref y,.ref r,.ref z]) (hY:Yd K σ y k t C dx S H sp hd) (hr:σ.hp r=some (.list (ps.map AV.int))) (hz:σ.hp z=some (.list (hs.map eC))) (hrz:r≠z) (hp:hs.Perm hd) (hlen:hs.length≤1000) (hpl:ps.length≤1000) (ga:GA P pos qual σ)
  (hq:∀ σ',σ'.loc=σ.loc→σ.But4 P S H r σ'→GA P pos qual σ'→Q (.bool true) σ'):t7 K P pos qual Q l σ
inductive Fv (K:Frag) (P:Addr) (pos:Pos) (qual:Str) (σ₀:AS) (y r z kp:Addr) (k:Nat) (dx S H:Addr) (hd hs:List (Int×Int)) (ps:List Int) (σ:AS):Prop
 |mk (C:Addr) (t:BT k) (sp:List (Int×Int)) (hY:Yd K σ y k t C dx S H sp hd) (fr:σ.hp r=some (.list (ps.map AV.int))) (fz:σ.hp z=some (.list (hs.map eC))) (fk:σ.hp kp=some (.list (ps.map AV.int))) (t1:σ.loc (aa "_law_yard")=some (.ref y)) (t2:σ.loc (aa "_law_places")=some (.ref r)) (t3:σ.loc (aa "_law_held")=some (.ref z)) (t4:σ.loc (aa "_law_kept")=some (.ref kp)) (ga:GA P pos qual σ) (but:σ₀.But4 P S H r σ):Fv K P pos qual σ₀ y r z kp k dx S H hd hs ps σ
end
theorem tu {n:Nat}:fh n 1=min 1 n:=by
 have:=clipAt_nat n 1
 exact this
theorem xu {hs:List (Int×Int)}:(hs.map eC).take (fh (hs.map eC).length 1)=(hs.take 1).map eC:=by
 rw [tu]
 cases hs with
 |nil=>rfl
 |cons p hs =>
  rw [show min 1 ((p::hs).map eC).length=1 by rw [aj,bj];lia]
  rfl
theorem xv {hs:List (Int×Int)}:(hs.map eC).drop (fh (hs.map eC).length 1)=(hs.drop 1).map eC:=by
 rw [tu]
 cases hs with
 |nil=>rfl
 |cons p hs =>
  rw [show min 1 ((p::hs).map eC).length=1 by rw [aj,bj];lia]
  rfl
theorem uW {hs:List (Int×Int)}:hs.drop ((hs.take 1).map eC).length=hs.drop 1:=by cases hs <;> rfl
theorem ul {hs:List (Int×Int)} {i:Nat} {p:Int×Int} (h:(hs.take 1)[i]?=some p):i=0∧hs=p::hs.drop 1:=by
 cases hs with
 |nil=>simp at h
 |cons q l =>
  cases i with
  |zero =>
   simp at h
   subst h
   exact ⟨rfl,rfl⟩
  |succ i=>simp at h
theorem Ch {v:Int} {d:List (Int×Int)} (ho:Ord [v] (d.map (·.1))):∃ x,d=[(0,x)]:=by
 have h:=ho.p
 rw [show upTo [v].length=[0] from rfl] at h
 have:=List.perm_singleton.mp h
 cases d with
 |nil=>cases this
 |cons p d =>
  rw [aM] at this
  injection this with h1 h2
  obtain rfl:d=[]:=List.map_eq_nil_iff.mp h2
  obtain ⟨a,b⟩:=p
  simp only at h1
  subst h1
  exact ⟨b,rfl⟩
theorem CB {x:Int}:ka [1] [(0,x)]=[(x,1)]:=by
 unfold ka
 rw [List.map_singleton,show iU [1] ((0:Int),x).1=1 from rfl,ED]
 rfl
theorem n9 {hs hd:List (Int×Int)} {p:Int×Int} (h:(p::hs).Perm hd) (hk:gE hd):hs.Perm (dS hd p.1):=
 (jR (pre:=[]) (post:=hs) (k:=p.1) (v:=p.2) hk h.symm).symm
theorem tD {hs hd:List (Int×Int)} {p:Int×Int} (h:(p::hs).Perm hd) (hk:gE hd):hd.Perm (dS hd p.1++[(p.1,p.2)]):=
 h.symm.trans (((n9 h hk).cons p).trans (List.perm_append_singleton p _).symm)
section
variable {K:Frag} {cx:CX} {sc:Scope} {n:Nat} {σ σ':AS} {Q:AV→AS→Prop} {QB:Bool→AS→Prop} {QF:AF→AS→Prop} {E:Value→AS→Prop} {pos:Pos}
inductive BhJ (K:Frag) (P:Addr) (pos:Pos) (qual:Str) (σ₀:AS) (y r z kp ax:Addr) (k:Nat) (dx S H:Addr) (hs:List (Int×Int)) (ps:List Int) (i:Nat) (σ:AS):Prop
 |mk (hd:List (Int×Int)) (hp:(hs.drop i).Perm hd) (hB:Fv K P pos qual σ₀ y r z kp k dx S H hd hs ps σ) (ha:σ.hp ax=some (.list ((hs.take 1).map eC))):BhJ K P pos qual σ₀ y r z kp ax k dx S H hs ps i σ
theorem GA.putL {P r:Addr} {qual:Str} {l:List AV} {o:AO} (h:GA P pos qual σ) (hr:σ.hp r=some (.list l)):GA P pos qual (σ.put r o):=by
 cases h with
 |fresh h=>exact .fresh (bH (be h hr (by intro q;cases q)) h)
 |made c' oc vs t h hc hd hv=>exact .made c' oc vs t (bH (be h hr (by intro q;cases q)) h) (bH (be hc hr (by intro q;cases q)) hc) hd hv
theorem AN {l:List (Int×Int)}:decide (l=l)=true:=decide_eq_true rfl
theorem pE (ok:Ok af K cx sc n) {x y a b c d:Addr} {p q:List (Int×Int)} (hx:σ.lst x [.ref a,.ref b]) (hy:σ.lst y [.ref c,.ref d]) (ha:σ.lst a (p.map eC)) (hb:σ.lst b (q.map eC)) (hc:σ.lst c (p.map eC)) (hd:σ.lst d (q.map eC)) (h:Q (.bool true) σ) :
  de af w cx (bL .Eq) (.ref x) (.ref y) σ Q E:=by
 intro s va vb r p' q'
 rw [show va = .ref x from p',show vb = .ref y from q']
 obtain ⟨as,ra⟩:=ql r hx ha hb
 obtain ⟨bs,rb⟩:=ql r hy hc hd
 exact E9 ra rb wT wT (by have:=ok.units;have:=@yj p q;lia) (by rw [C0,decide_eq_true ⟨rfl,rfl⟩];exact dT r dk h)
end
inductive oE (k:Nat) (hs:List (Int×Int)) (vs:List Int):Str→Prop
 |wish (h:∃ v∈vs,v<1):oE k hs vs (aa "wish")
 |much (h1:∀ v∈vs,1≤v) (h2:∃ v∈vs,2 ^ k<v):oE k hs vs (aa "room")
 |room (h1:∀ v∈vs,1≤v∧v≤2 ^ k) (h2:∃ j m,j≤k∧gw (dG j hs) m∧2 ^ k / 2 ^ j - (fi j hs+m)<bg j (um vs)):oE k hs vs (aa "room")
 |all (h1:∀ v∈vs,1≤v∧v≤2 ^ k) (h2:∀ j,j≤k→∃ m,gw (dG j hs) m∧bg j (um vs)≤2 ^ k / 2 ^ j - (fi j hs+m)):oE k hs vs (aa "")
theorem oE.isWish {k:Nat} {hs:List (Int×Int)} {vs:List Int} {s:Str} (h:oE k hs vs s) (q:∃ v∈vs,v<1):s=aa "wish":=by
 obtain ⟨v,hv,q⟩:=q
 cases h with
 |wish=>rfl
 |much h1=>have:=h1 v hv;lia
 |room h1=>have:=h1 v hv;lia
 |all h1=>have:=h1 v hv;lia
theorem oE.isRoom {k:Nat} {t:BT k} {sp hd hs:List (Int×Int)} {vs:List Int} {s:Str} (R:hV t sp hd) (hc:cn t) (hp:hs.Perm hd) (h:oE k hs vs s) (q:((∀ v∈vs,1≤v)∧(∃ v∈vs,2 ^ k<v))∨((∀ v∈vs,1≤v∧v≤2 ^ k)∧oh k hd vs)):s=aa "room":=by
 cases h with
 |wish h =>
  obtain ⟨v,hv,h⟩:=h
  rcases q with q|q
  ·have:=q.1 v hv;lia
  ·have:=q.1 v hv;lia
 |much=>rfl
 |room=>rfl
 |all h1 h2 =>
  rcases q with ⟨_,v,hv,q⟩|q
  ·have:=h1 v hv;lia
  ·obtain ⟨j,hj,h⟩:=o6 R hc q.2 h1 hp
   obtain ⟨m,dm,le⟩:=h2 j hj
   have:=h m dm
   lia
theorem oE.isAll {k:Nat} {t t':BT k} {sp sp' hd hs d:List (Int×Int)} {vs:List Int} {s:Str} (R:hV t sp hd) (hc:cn t) (hp:hs.Perm hd) (h:oE k hs vs s) (q:∀ v∈vs,1≤v∧v≤2 ^ k) (ho:Ord vs (d.map (·.1))) (R':hV t' sp' (hd++ka vs d)) (hc':cn t'):s=aa "":=by
 cases h with
 |wish h =>
  obtain ⟨v,hv,h⟩:=h
  have:=q v hv
  lia
 |much _ h =>
  obtain ⟨v,hv,h⟩:=h
  have:=q v hv
  lia
 |room _ h =>
  obtain ⟨j,m,hj,dm,lt⟩:=h
  have:=Aw R hc ho R' hc' hp hj dm
  lia
 |all=>rfl
section
variable {K:Frag} {cx:CX} {sc:Scope} {n:Nat} {σ σ':AS} {Q:AV→AS→Prop} {QB:Bool→AS→Prop} {QF:AF→AS→Prop} {E:Value→AS→Prop} {pos:Pos}
inductive I11 (K:Frag) (P:Addr) (ps:Pos) (qu:Str) (k:Nat) (C y dx S H sx:Addr) (ns:List Int) (ax:Addr) (l:List AV) (i:Nat) (σ:AS):Prop
 |mk (g:L9 K P ps qu k C y dx S H sx ns i σ) (ha:σ.hp ax=some (.list l)):I11 K P ps qu k C y dx S H sx ns ax l i σ
inductive Dn (k:Nat) (y z u:Addr) (hs:List (Int×Int)) (vs:List Int) (s:Str) (σ:AS):Prop
 |mk (hz:σ.hp z=some (.list (hs.map eC))) (hu:σ.hp u=some (.list (vs.map AV.int))) (lc:σ.loc (aa "_law_cells")=some (.int (2 ^ k))) (ly:σ.loc (aa "_law_yard")=some (.ref y)) (lh:σ.loc (aa "_law_held")=some (.ref z)) (lu:σ.loc (aa "_law_wants")=some (.ref u)) (ld:σ.loc (aa "_law_due_here")=some (.str s)):Dn k y z u hs vs s σ
inductive B11 (b b1 b2:Addr) (k:Nat) (t:BT k) (σ:AS):Prop
 |mk (lb:σ.loc (aa "_law_before")=some (.ref b)) (hb:σ.hp b=some (.list [.ref b1,.ref b2])) (h1:σ.hp b1=some (.list ((cI true 0 t).map eC))) (h2:σ.hp b2=some (.list ((cI false 0 t).map eC))):B11 b b1 b2 k t σ
inductive W11 (K:Frag) (P:Addr) (ps:Pos) (qu:Str) (σ:AS):Prop
 |mk (k:Nat) (C y dx S H z u:Addr) (t:BT k) (sp hd hs:List (Int×Int)) (vs:List Int) (s:Str) (hY:Yd K σ y k t C dx S H sp hd) (hp:hs.Perm hd) (hl:hd.length≤63) (hvl:vs.length≤300) (due:oE k hs vs s) (nm:Dn k y z u hs vs s σ) (ga:GA P ps qu σ):W11 K P ps qu σ
inductive X11 (K:Frag) (P:Addr) (ps:Pos) (qu:Str) (σ:AS):Prop
 |mk (k:Nat) (C y dx S H z u b b1 b2 v:Addr) (t:BT k) (sp hd hs:List (Int×Int)) (vs:List Int) (s:Str) (hY:Yd K σ y k t C dx S H sp hd) (hp:hs.Perm hd) (hl:hd.length≤63) (hvl:vs.length≤300) (due:oE k hs vs s) (nm:Dn k y z u hs vs s σ) (bb:B11 b b1 b2 k t σ) (lv:σ.loc (aa "_law_handed")=some (.ref v)) (hv:σ.hp v=some (.list (vs.map AV.int))) (n1:z≠v) (n2:u≠v) (n3:b≠v) (n4:b1≠v) (n5:b2≠v) (ga:GA P ps qu σ):X11 K P ps qu σ
inductive F11 (K:Frag) (P:Addr) (ps:Pos) (qu:Str) (σ:AS):Prop
 |mk (k:Nat) (C y dx S H z u b b1 b2:Addr) (t:BT k) (sp hd hs:List (Int×Int)) (vs:List Int) (s:Str) (hY:Yd K σ y k t C dx S H sp hd) (hp:hs.Perm hd) (hl:hd.length≤63) (hvl:vs.length≤300) (Et:s=aa "wish"∨s=aa "room") (nm:Dn k y z u hs vs s σ) (bb:B11 b b1 b2 k t σ) (ga:GA P ps qu σ):F11 K P ps qu σ
inductive G11 (K:Frag) (P:Addr) (ps:Pos) (qu:Str) (σ:AS):Prop
 |mk (k:Nat) (C y dx S H z u r:Addr) (t:BT k) (sp hd hs:List (Int×Int)) (vs:List Int) (d:List (Int×Int)) (hY:Yd K σ y k t C dx S H sp (hd++ka vs d)) (hp:hs.Perm hd) (hl:hd.length≤63) (hvl:vs.length≤300) (hv:∀ v∈vs,1≤v∧v≤2 ^ k) (ho:Ord vs (d.map (·.1))) (due:ic k hd vs d) (nm:Dn k y z u hs vs (aa "") σ) (lt:σ.loc (aa "_law_told_here")=some (.tup [.str (aa ""),.ref r])) (hr:σ.hp r=some (.list ((upTo vs.length).map fun i=>AV.int (iY d i)))) (nr:z≠r) (ga:GA P ps qu σ):G11 K P ps qu σ
inductive DM (K:Frag) (P:Addr) (ps:Pos) (qu:Str) (k:Nat) (C y dx S H u r:Addr) (t:BT k) (sp hd hs:List (Int×Int)) (vs:List Int) (d:List (Int×Int)) (i:Nat) (σ:AS):Prop
 |mk (z:Addr) (hY:Yd K σ y k t C dx S H sp (hd++ka vs d)) (nm:Dn k y z u (hs++(upTo i).map fun i=>(iY d i,(2:Int) ^ fe (iU vs i))) vs (aa "") σ) (lt:σ.loc (aa "_law_told_here")=some (.tup [.str (aa ""),.ref r])) (hr:σ.hp r=some (.list ((upTo vs.length).map fun i=>AV.int (iY d i)))) (nr:z≠r) (ga:GA P ps qu σ):DM K P ps qu k C y dx S H u r t sp hd hs vs d i σ
theorem Dn.sub {k:Nat} {y z u:Addr} {hs:List (Int×Int)} {vs:List Int} {s:Str} (h:Dn k y z u hs vs s σ) (q:σ.Sub σ') (l:σ'.loc=σ.loc):Dn k y z u hs vs s σ':=
 let ⟨hz,hu,lc,ly,lh,lu,ld⟩:=h
 ⟨q _ _ hz,q _ _ hu,by rw [l];exact lc,by rw [l];exact ly,by rw [l];exact lh,by rw [l];exact lu,by rw [l];exact ld⟩
theorem xk {n:Nat}:upTo (n+1)=upTo n++[(n:Int)]:=by
 unfold upTo
 rw [List.range_succ,bu]
 rfl
theorem y5 {hs d:List (Int×Int)} {vs:List Int} {i:Nat}:(hs++(upTo (i+1)).map fun i=>(iY d i,(2:Int) ^ fe (iU vs i))).map eC=(hs++(upTo i).map fun i=>(iY d i,(2:Int) ^ fe (iU vs i))).map eC++[.tup [.int (iY d i),.int (2 ^ fe (iU vs i))]]:=by
 rw [xk]
 simp only [bu,ai]
 rfl
theorem xB {af:aV} {w:World} {s₁:az} {h₁:Heap} {l fa P c₀:Addr} {vs:List Value} {ns:List Int} {name:Str} {cd:Value} {tk:Nat} {body:List Stmt} {Qw:Flow→az→Prop} {Ew:Value→az→Prop} {m:Str→Option Value}
  (hT:TabsAt [(c₀,P)] s₁.heap) (glo:Glo af K (ghostOf s₁.heap [(c₀,P)])) (hL:s₁.heap.IsList l vs.toArray) (hI:IntsAre vs ns) (F:Fr s₁.heap s₁.heap.objs.size h₁ m)
  (hm:m (aa "_law_script")=some (.ref l)) (hk:sc.kind = .function) (hx:sc.names.lookup (aa "_law_script")=some .local) (hgn:sc.isGenerator=false) (hco:sc.isCoroutine=false) (hcc:∀ p∈sc.names,p.2 ≠ .cell)
  (hq:∀ f s',(∃ v,f = .ret v∧v = .bool true)→(∀ b o,(ghostOf s₁.heap [(c₀,P)]).get? b=some o→s'.heap.get? b=some o)→GrownAt P s'.heap→s'.os=s₁.os→s'.gens=s₁.gens→Qw f s')
  (h:∀ cx σ,Fx af K cx sc 30→σ.loc (aa "_law_script")=some (.ref l)→σ.hp l=some (.ro (ns.map AV.int))→σ.hp P=some (.any (iV (i8 #[])))→cf af w cx body σ (fun f σ'=>f = .ret (.bool true)∧∃ ps,σ'.hp P=some (.any (iV (i8 ps)))) (fun ux ux=>False)) :
  wpAny (model af w) (callerA.deeper (envOf name sc s₁.heap.objs.size fa cd)) (execs body (envOf name sc s₁.heap.objs.size fa cd)) Qw Ew { heap:=h₁,gens:=s₁.gens,drawn:=s₁.drawn,toks:=tk,os:=s₁.os }:=by
 let cx:CX:=⟨callerA.deeper (envOf name sc s₁.heap.objs.size fa cd),envOf name sc s₁.heap.objs.size fa cd,envOf name sc s₁.heap.objs.size fa cd,[],ghostOf s₁.heap [(c₀,P)],fun ux ux=>False,fun ux ux=>False,s₁.gens,s₁.drawn,s₁.os⟩
 have ok:Fx af K cx sc 30:=⟨⟨glo,rfl,rfl,hk,rfl,rfl,rfl,hgn,hco,rfl,rfl,hk,by show callerA.depth+1+4 * 30+140<recursionLimit;decide,by show callerA.units+3+16 * 30+200<cLine;decide,(fun _ _ _ q=>by cases q),(fun _ _ q=>by cases q),fun x q=>absurd rfl (hcc _ (mem_of_lookup q))⟩,rfl,rfl⟩
 obtain ⟨o,hl1,hl2,hl3⟩:=hL
 have lt:(l:Nat)<s₁.heap.objs.size:=bq hl1
 have hP:=(hT (c₀,P) (.head _)).2
 have nT:(P:Nat)<s₁.heap.objs.size:=bq hP
 have nlP:l≠P:=fun q=>by rw [q,hP] at hl1;cases hl1;cases hl2
 have fresh:(ghostOf s₁.heap [(c₀,P)]).get? s₁.heap.objs.size=none:=ghost_fresh (cE _)
 have own':∀ a:Nat,cx.own a→s₁.heap.objs.size≤a:=by
  rintro a (e|⟨y,e⟩)
  ·rw [show a=s₁.heap.objs.size from e];exact aU _
  ·cases e
 have r:R af w cx ⟨fun x=>if x=aa "_law_script" then some (.ref l) else none,fun a=>if a=l then some (.ro (ns.map AV.int)) else if a=P then some (.any (iV (i8 #[]))) else none⟩ { heap:=h₁,gens:=s₁.gens,drawn:=s₁.drawn,toks:=tk,os:=s₁.os }:=by
  refine ⟨fun b o e=>F.keep b o (ut _ e),?_,⟨m,F.ns⟩,fun x v e=>?_,fun ux ux e=>e.elim,fun ux ux e=>e.elim,fun a ao e=>?_,fun a e=>?_,fun x c e=>(by cases e),fun ux e=>(nomatch e),rfl,rfl,rfl⟩
  ·obtain ⟨oL,h1,h2⟩:=dB F.ns
   exact ⟨by show sc.kind≠_;rw [hk];decide,⟨_,oL,rfl,fresh,h1,h2⟩,trivial⟩
  ·dsimp only at e
   split at e
   ·rename_i q;subst q;cases e
    refine ⟨.ref l,?_,di⟩
    unfold ei
    rw [show cx.env.kindOf (aa "_law_script")=some .local from hx]
    exact ⟨m,F.ns,hm⟩
   ·cases e
  ·dsimp only at e
   split at e
   ·rename_i q;subst q;cases e
    refine ⟨⟨vs,⟨o,F.keep _ _ hl1,hl2,hl3⟩,vX hI⟩,fun q=>(by cases q),fun ux q=>q,fun q=>?_,fun e he hf=>?_⟩
    ·have:=own' a q;exact absurd lt (Fb.mpr this)
    ·rcases aQ.mp he with q|q
     ·subst q
      injection (show some s₁.heap.objs.size=some a from hf) with hf
      rw [← hf] at lt;exact absurd lt (ba _)
     ·cases q
   ·split at e
    ·rename_i q0 q;subst q;cases e
     refine ⟨nx (F.keep _ _ hP) (by intro xs n _ q;cases q),fun ux=>Ex _ (.head _),fun ux q=>q,fun q=>?_,fun e he hf=>?_⟩
     ·have:=own' a q;exact absurd nT (Fb.mpr this)
     ·rcases aQ.mp he with q|q
      ·subst q
       injection (show some s₁.heap.objs.size=some a from hf) with hf
       rw [← hf] at nT;exact absurd nT (ba _)
      ·cases q
    ·cases e
  ·rcases e with q|⟨y,q⟩
   ·rw [show a=s₁.heap.objs.size from q];exact ⟨fresh,fun ux q=>q,fun ux q=>q⟩
   ·cases q
 refine ak (h cx _ ok (by simp) (by simp) (by simp [bl nlP]) _ r) (fun f s' zz=>zz.use fun a σ' r' v' _ zz=>?_) fun v s' ⟨_,_,_,_,_,_,_,_,_,_,_,e⟩=>e.elim
 obtain ⟨q',ps,hps⟩:=zz
 subst q'
 obtain ⟨v,rfl,hv⟩:=v'
 exact hq _ _ ⟨v,rfl,hv⟩ r'.stay ⟨ps,r'.iso hps⟩ r'.os r'.gens
end
set_option tactic.hygienic true
set_option tactic.hygienic false
set_option tactic.hygienic true
open PySem PySem.W PyProof.Rows
set_option Elab.async false
set_option maxHeartbeats 8000000
theorem hfill:PySem.Challenge.rw_uf060009_11=PySem.Challenge.rw_uf060009_11∧hK=hK:=by k_fill;exact ⟨rfl,rfl⟩
local macro_rules | `(tactic| walk_at "n") => `(tactic| ((with_reducible refine' DW (by walk_at "ok") ?qa ?qb ?qc ?_); (case qa => decide); (case qb => decide); (case qc => walk_at "lk")))
local macro_rules | `(tactic| walk_at "k") => `(tactic| ((with_reducible refine Er ?qa ?_); (case qa => (intro env; rfl))))
local macro_rules | `(tactic| walk_at "sub") => `(tactic| first | with_reducible assumption | ((with_reducible refine AS.Sub.put ?_ (by with_reducible assumption)); walk_at "sub") | ((with_reducible refine AS.Sub.set ?_); walk_at "sub") | exact fun _ _ e => e)
local macro_rules | `(tactic| walk_at "ok") => `(tactic| first | assumption | exact Fx.ok (by assumption))
local macro_rules | `(tactic| walk_at "lk") => `(tactic| first | with_reducible assumption | with_reducible exact gm | ((with_reducible refine vN ?_); walk_at "lk") | ((with_reducible refine uo ?qa ?_); (case qa => decide); walk_at "lk") | ((with_reducible refine books_lk ?_); walk_at "lk") | with_reducible exact EL | ((with_reducible refine yn ?qa ?qb ?_); (case qa => decide); (case qb => decide); walk_at "lk") | ((with_reducible refine Ek (by assumption) ?_); walk_at "lk") | exact rfl)
local macro_rules | `(tactic| walk_at "hp1") => `(tactic| first
 | with_reducible assumption
 | with_reducible exact aX
 | with_reducible refine D7 ?_
 | with_reducible refine uq ?_
 | ((with_reducible refine fJ ?qa ?_); (case qa => with_reducible assumption))
 | ((with_reducible refine bH ?qa ?_); (case qa => first | with_reducible assumption | (exact bl (by with_reducible assumption))))
 | with_reducible refine C3 ?_
 | with_reducible refine AK ?_
 | ((with_reducible refine' yY ?qx ?_ ?qy); (case qx => walk_at "hp"); (walk_at "hp"); (case qy => (intro q; cases q; done)))
 | ((with_reducible refine D4 (by assumption) ?_))
 | ((with_reducible refine u7 (by assumption) ?qa ?qb ?_); (case qa => with_reducible assumption); (case qb => with_reducible assumption))
 | exact rfl)
local macro_rules | `(tactic| walk_at "hp") => `(tactic| (focus ((repeat (walk_at "hp1")); done)))
local macro_rules | `(tactic| walk_at "lst") => `(tactic| first | exact Or.inl (by walk_at "hp") | exact Or.inr (by walk_at "hp"))
local macro_rules | `(tactic| walk_at "num") => `(tactic| first | with_reducible assumption | lia | (simp only [aj]; lia))
local macro_rules | `(tactic| walk_at "mul") => `(tactic| first | exact IntMulOk.of_right (by decide) | exact IntMulOk.of_left (by decide) | exact IntMulOk.of_right (intBits_le_64 (by lia) (by lia)) | exact IntMulOk.of_left (intBits_le_64 (by lia) (by lia)) | mul_fits)
local macro_rules | `(tactic| walk_at "pos") => `(tactic| first | with_reducible assumption | decide | lia | exact Bu (by decide) | decide | exact Int.mul_pos (by decide) (Bu (by decide)))
section
variable {cx:CX} {sc:Scope} {n:Nat} {σ:AS} {Q:AV→AS→Prop} {QB:Bool→AS→Prop} {QF:AF→AS→Prop} {E:Value→AS→Prop} {pos:Pos}
theorem A3 (ok:Ok af (hK w.params) cx sc (n+1)) (hh:cx.A.handled=none) {args:List Expr} {px:Pos} (hx:sc.names.lookup (aa "_law_whole")=some .globalImplicit) (hp:eB (aa "_law_whole") px args pos)
  (h:fN af w cx pos args σ (rN Q) E):bZ af w cx (.Call (.Name (aa "_law_whole") px) args [] pos) σ Q E:=by
 refine dz ok hx (by k_is) (by k_is) (by decide) hp (h.imp (fun l σ₁ qA=>?_) fun ux ux e=>e)
 obtain ⟨a,hl,hq⟩:=qA
 subst hl
 refine mX (ps:=[aa "_law_found"]) ok hh (ed (by k_is) (by k_is) (by k_is) (re rfl fun ux=>rfl) (by decide) rfl rfl rfl (by decide)) rfl fun cx g=>?_
 (repeat' (first|(with_reducible first|refine ch ?_|refine fn ?_|refine av ?_|refine cF ?_|refine aN ?_|refine uU ?_|refine uE ?_|refine k_un ?_|refine Ee ?_|refine cU ?_|fail)|walk_at "n"|((with_reducible refine' qQ (by walk_at "ok") ?qa ?qb ?qc ?qd ?qe ?_);(case qa=>exact rfl);(case qb=>decide);(case qc=>k_is);(case qd=>decide);(case qe=>boot_by_name))|((with_reducible refine' c9 (by walk_at "ok") ?qa ?qc ?qd ?qe ?qb ?qf ?_);(case qa=>exact rfl);(case qb=>decide);(case qc=>k_is);(case qd=>decide);(case qe=>boot_by_name);(case qf=>exact ⟨fun ux=>rfl,fun ux=>rfl⟩))|walk_at "k"|((with_reducible refine' u2 (by walk_at "ok") ?qa ?qb ?_);(case qa=>exact fun ux ux q=>q);(case qb=>kit_is))|fail))
 exact hq
theorem Da (g:Fx af (hK w.params) cx sc (n+1)) {args:List Expr} {px:Pos} (hx:sc.names.lookup (aa "_law_whole")=some .globalImplicit) (hp:eB (aa "_law_whole") px args pos)
  (h:fN af w cx pos args σ (rN Q) E):bZ af w cx (.Call (.Name (aa "_law_whole") px) args [] pos) σ Q E:=A3 g.ok g.hh hx hp h
theorem Dc (ok:Ok af (hK w.params) cx sc (n+1)) (hh:cx.A.handled=none) {args:List Expr} {px:Pos} (hx:sc.names.lookup (aa "_law_cell_at")=some .globalImplicit) (hp:eB (aa "_law_cell_at") px args pos)
  (h:fN af w cx pos args σ (vB Q) E):bZ af w cx (.Call (.Name (aa "_law_cell_at") px) args [] pos) σ Q E:=by
 refine dz ok hx (by k_is) (by k_is) (by decide) hp (h.imp (fun l σ₁ qA=>?_) fun ux ux e=>e)
 obtain ⟨x,k,ns,hl,hx,hn,h0,h1,hq⟩:=qA
 subst hl
 refine mX (ps:=[aa "_law_script",aa "_law_k"]) ok hh (ed (by k_is) (by k_is) (by k_is) (nB rfl fun ux ux=>rfl) (by decide) rfl rfl rfl (by decide)) rfl fun cx g=>?_
 have hx':(σ₁.enter [aa "_law_script",aa "_law_k"] [.ref x,.int k]).hp x=some (.ro (ns.map AV.int)):=hx
 (repeat' (first|(with_reducible first|refine a' ?_|refine ch ?_|refine fn ?_|refine aW ?_|refine av ?_|refine eF ?_|refine cF ?_|refine bf ?_|refine aN ?_|refine dc ?_|refine eU ?_|fail)|walk_at "n"|((with_reducible refine' c9 (by walk_at "ok") ?qa ?qc ?qd ?qe ?qb ?qf ?_);(case qa=>exact rfl);(case qb=>decide);(case qc=>k_is);(case qd=>decide);(case qe=>boot_by_name);(case qf=>exact ⟨fun ux=>rfl,fun ux=>rfl⟩))|walk_at "k"|((with_reducible refine bI ?qa ?_);(case qa=>with_unfolding_all rfl))|with_reducible refine cz (fun _=>?_) (fun _=>?_)|((with_reducible refine' iJ ?qa ?qb ?_);(case qa=>walk_at "lst");(case qb=>walk_at "num"))|fail))
 ·rename_i hlt
  rw [aj] at hlt
  refine yS (.inr hx') h0 (by lia) (a:=.int (cellAt ns k.toNat)) ?_ hq
  rw [aR]
  unfold cellAt
  rw [aO (by lia)]
  rfl
 ·rename_i hlt
  rw [aj] at hlt
  unfold cellAt at hq
  rw [ek (by lia)] at hq
  exact hq
theorem rB (g:Fx af (hK w.params) cx sc (n+1)) {args:List Expr} {px:Pos} (hx:sc.names.lookup (aa "_law_cell_at")=some .globalImplicit) (hp:eB (aa "_law_cell_at") px args pos)
  (h:fN af w cx pos args σ (vB Q) E):bZ af w cx (.Call (.Name (aa "_law_cell_at") px) args [] pos) σ Q E:=Dc g.ok g.hh hx hp h
theorem qC (g:Fx af (hK w.params) cx sc (n+1)) {args:List Expr} {px:Pos} (hx:sc.names.lookup (aa "_law_doubled")=some .globalImplicit) (hp:eB (aa "_law_doubled") px args pos)
  (h:fN af w cx pos args σ (qK Q) E):bZ af w cx (.Call (.Name (aa "_law_doubled") px) args [] pos) σ Q E:=by
 refine dz g.ok hx (by k_is) (by k_is) (by decide) hp (h.imp (fun l σ₁ qA=>?_) fun ux ux e=>e)
 obtain ⟨k,hl,h0,h1,hq⟩:=qA
 subst hl
 refine eT (ps:=[aa "_law_times"]) g (ed (by k_is) (by k_is) (by k_is) (re rfl fun ux=>rfl) (by decide) rfl rfl rfl (by decide)) rfl fun cx g=>?_
 (repeat' (first|(with_reducible first|refine a' ?_|refine av ?_|refine bf ?_|fail)|((with_reducible refine aT (by walk_at "ok") ?qa ?qb ?_);(case qa=>exact rfl);(case qb=>exact rfl))|fail))
 refine vD g rfl (fun ux=>rfl) ?_
 (repeat' (first|with_reducible refine aN ?_|walk_at "n"|((with_reducible refine' dQ (by walk_at "ok") ?qa ?qc ?qd ?qe ?qb ?qf ?_);(case qa=>exact rfl);(case qb=>decide);(case qc=>k_is);(case qd=>decide);(case qe=>boot_by_name);(case qf=>exact ⟨fun ux=>rfl,fun ux=>rfl⟩))|walk_at "k"|((with_reducible refine gP (fun _ _=>?_)))|fail))
 rename_i ax hax
 refine ⟨ax,0,k,fun i σ=>σ.loc (aa "_law_size")=some (.int (2 ^ i))∧σ₁.Sub σ,rfl,aX,by lia,h0,by lia,⟨by walk_at "lk",AS.Sub.put (fun ux ux e=>e) hax⟩,?_,?_⟩
 ·intro i σ cx g hi ⟨j1,j2⟩
  (repeat' (first|(with_reducible first|refine a' ?_|refine aW ?_|refine av ?_|refine cG ?_|refine bf ?_|fail)|((with_reducible refine aT (by walk_at "ok") ?qa ?qb ?_);(case qa=>exact rfl);(case qb=>exact rfl))|walk_at "n"|((with_reducible refine v_mul ?qa ?_);(case qa=>walk_at "mul"))|fail))
  refine ⟨?_,j2⟩
  rw [gm,eW]
 ·intro σ ⟨j1,j2⟩
  (repeat' (first|(with_reducible first|refine a' ?_|refine ch ?_|refine av ?_|refine cF ?_|fail)|walk_at "n"|fail))
  refine ⟨j2,?_⟩
  rw [Int.sub_zero]
  exact hq
theorem Bb (g:Fx af (hK w.params) cx sc (n+1)) {args:List Expr} {px:Pos} (hx:sc.names.lookup (aa "is_size")=some .globalImplicit) (hp:eB (aa "is_size") px args pos)
  (h:fN af w cx pos args σ (tZ Q) E):bZ af w cx (.Call (.Name (aa "is_size") px) args [] pos) σ Q E:=by
 refine dz g.ok hx (by k_is) (by k_is) (by decide) hp (h.imp (fun l σ₁ qA=>?_) fun ux ux e=>e)
 obtain ⟨v,hl,h1,h2⟩:=qA
 subst hl
 refine eT (ps:=[aa "number"]) g (ed (by k_is) (by k_is) (by k_is) (re rfl fun ux=>rfl) (by decide) rfl rfl rfl (by decide)) rfl fun cx g=>?_
 (repeat' (first|(with_reducible first|refine a' ?_|refine ch ?_|refine fn ?_|refine aW ?_|refine av ?_|refine eF ?_|refine cF ?_|refine bf ?_|refine jP ?_|refine eZ ?_|refine eQ ?_|refine mK ?_|refine eU ?_|refine jT ?_|refine cU ?_|refine bN ?_|fail)|((with_reducible refine aT (by walk_at "ok") ?qa ?qb ?_);(case qa=>exact rfl);(case qb=>exact rfl))|walk_at "n"|((with_reducible refine' vH (by walk_at "ok") ?qa ?qb ?qc ?qd ?_);(case qa=>exact rfl);(case qb=>decide);(case qc=>k_is);(case qd=>intro h;first|exact cQ|exact di|exact uh))|((with_reducible refine bI ?qa ?_);(case qa=>with_unfolding_all rfl))|with_reducible refine cz (fun _=>?_) (fun _=>?_)|fail))
 ·exact ⟨fun ux ux e=>e,h1 (.inl (by lia))⟩
 ·exact ⟨fun ux ux e=>e,h1 (.inr (by lia))⟩
 ·refine li g (Dbl (aa "size") (aa "number") v σ₁) 61 ⟨0,rfl,by decide,by walk_at "lk",by walk_at "lk",by lia,fun ux ux e=>e⟩ ?_
  rintro k σ ⟨i,hk,hi,j1,j2,j3,j4⟩
  (repeat' (first|(with_reducible first|refine a' ?_|refine ch ?_|refine fn ?_|refine aW ?_|refine av ?_|refine cF ?_|refine cG ?_|refine bf ?_|refine eU ?_|refine nE ?_|fail)|((with_reducible refine aT (by walk_at "ok") ?qa ?qb ?_);(case qa=>exact rfl);(case qb=>exact rfl))|walk_at "n"|((with_reducible refine bI ?qa ?_);(case qa=>with_unfolding_all rfl))|((with_reducible refine sC ?qa ?_);(case qa=>with_unfolding_all rfl))|with_reducible refine cz (fun _=>?_) (fun _=>?_)|((with_reducible refine v_mul ?qa ?_);(case qa=>walk_at "mul"))|fail))
  ·have:i≠60:=fun q=>by subst q;lia
   refine ⟨k - 1,by lia,i+1,by lia,by lia,?_,by walk_at "lk",fun j hj=>?_,j4⟩
   ·rw [gm,eW]
   ·rcases fY.mp hj with q|q
    ·exact j3 j q
    ·subst q;assumption
  ·exact ⟨j4,h2 (by lia) (by lia) i ⟨hi,by lia,j3⟩⟩
theorem qz (g:Fx af (hK w.params) cx sc (n+1)) {args:List Expr} {px:Pos} (hx:sc.names.lookup (aa "size_for")=some .globalImplicit) (hp:eB (aa "size_for") px args pos)
  (h:fN af w cx pos args σ (qJ (hK w.params) E Q) E):bZ af w cx (.Call (.Name (aa "size_for") px) args [] pos) σ Q E:=by
 refine dz g.ok hx (by k_is) (by k_is) (by decide) hp (h.imp (fun l σ₁ qA=>?_) fun ux ux e=>e)
 obtain ⟨v,hl,h1,h2⟩:=qA
 subst hl
 refine eT (ps:=[aa "want"]) g (ed (by k_is) (by k_is) (by k_is) (re rfl fun ux=>rfl) (by decide) rfl rfl rfl (by decide)) rfl fun cx g=>?_
 (repeat' (first|(with_reducible first|refine a' ?_|refine fn ?_|refine aW ?_|refine av ?_|refine eF ?_|refine bf ?_|refine dR ?_|refine aN ?_|refine eZ ?_|refine eQ ?_|refine mK ?_|refine eU ?_|refine jT ?_|refine cU ?_|refine bN ?_|fail)|((with_reducible refine aT (by walk_at "ok") ?qa ?qb ?_);(case qa=>exact rfl);(case qb=>exact rfl))|walk_at "n"|((with_reducible refine' vH (by walk_at "ok") ?qa ?qb ?qc ?qd ?_);(case qa=>exact rfl);(case qb=>decide);(case qc=>k_is);(case qd=>intro h;first|exact cQ|exact di|exact uh))|walk_at "k"|((with_reducible refine bI ?qa ?_);(case qa=>with_unfolding_all rfl))|with_reducible refine cz (fun _=>?_) (fun _=>?_)|((with_reducible refine And.intro ?qa ?_);(case qa=>(show bM _≤aH;exact am rfl)))|((with_reducible refine' gi (by assumption) ?qa ?qb ?qc ?qd ?qe ?_);(case qa=>exact rfl);(case qb=>k_is);(case qc=>k_exc);(case qd=>decide);(case qe=>(intro env;rfl)))|fail))
 ·exact ⟨fun ux ux e=>e,h1 (.inl (by lia)) _ (by k_is)⟩
 ·exact ⟨fun ux ux e=>e,h1 (.inr (by lia)) _ (by k_is)⟩
 ·refine li g (Dbl (aa "size") (aa "want") v σ₁) 61 ⟨0,rfl,by decide,by walk_at "lk",by walk_at "lk",by lia,fun ux ux e=>e⟩ ?_
  rintro k σ ⟨i,hk,hi,j1,j2,j3,j4⟩
  (repeat' (first|(with_reducible first|refine a' ?_|refine ch ?_|refine fn ?_|refine aW ?_|refine av ?_|refine cF ?_|refine cG ?_|refine bf ?_|refine eU ?_|fail)|((with_reducible refine aT (by walk_at "ok") ?qa ?qb ?_);(case qa=>exact rfl);(case qb=>exact rfl))|walk_at "n"|((with_reducible refine bI ?qa ?_);(case qa=>with_unfolding_all rfl))|with_reducible refine cz (fun _=>?_) (fun _=>?_)|((with_reducible refine v_mul ?qa ?_);(case qa=>walk_at "mul"))|fail))
  ·have:i≠60:=fun q=>by subst q;lia
   refine ⟨k - 1,by lia,i+1,by lia,by lia,?_,by walk_at "lk",fun j hj=>?_,j4⟩
   ·rw [gm,eW]
   ·rcases fY.mp hj with q|q
    ·exact j3 j q
    ·subst q;assumption
  ·exact ⟨j4,h2 (by lia) (by lia) i ⟨hi,by lia,j3⟩⟩
end
local macro_rules | `(tactic| walk_at "ok") => `(tactic| exact Gx.ok (by assumption))
section
variable {cx:CX} {sc:Scope} {n:Nat} {σ:AS} {Q:AV→AS→Prop} {QB:Bool→AS→Prop} {QF:AF→AS→Prop} {E:Value→AS→Prop} {pos:Pos}
theorem A4 (g:Gx af (hK w.params) cx sc (n+1)) {args:List Expr} {px:Pos} (hx:sc.names.lookup (aa "twin_of")=some .globalImplicit) (hp:eB (aa "twin_of") px args pos)
  (h:fN af w cx pos args σ (BE Q) E):bZ af w cx (.Call (.Name (aa "twin_of") px) args [] pos) σ Q E:=by
 refine dz g.ok hx (by k_is) (by k_is) (by decide) hp (h.imp (fun l σ₁ qA=>?_) fun ux ux e=>e)
 obtain ⟨a,b,hl,hb,hq⟩:=qA
 subst hl
 refine tz (ps:=[aa "at",aa "size"]) g (ed (by k_is) (by k_is) (by k_is) (nB rfl fun ux ux=>rfl) (by decide) rfl rfl rfl (by decide)) rfl fun cx g _=>?_
 (repeat' (first|(with_reducible first|refine a' ?_|refine ch ?_|refine fn ?_|refine aW ?_|refine av ?_|refine eF ?_|refine cF ?_|refine cG ?_|refine bf ?_|refine eI ?_|refine ja ?_|refine nE ?_|fail)|walk_at "n"|((with_reducible refine bI ?qa ?_);(case qa=>with_unfolding_all rfl))|((with_reducible refine eq ?qa ?_);(case qa=>walk_at "pos"))|((with_reducible refine v_div (by walk_at "ok") ?qa ?_);(case qa=>walk_at "pos"))|with_reducible refine mL (fun _=>?_) (fun _=>?_)|fail))
 ·rw [if_pos (by assumption)] at hq;exact hq
 ·rw [if_neg (by assumption)] at hq;exact hq
theorem EV (g:Fx af (hK w.params) cx sc (n+3)) {args:List Expr} {px:Pos} (hx:sc.names.lookup (aa "Yard")=some .globalImplicit) (hp:eB (aa "Yard") px args pos)
  (h:fN af w cx pos args σ (BD (hK w.params) E Q) E):bZ af w cx (.Call (.Name (aa "Yard") px) args [] pos) σ Q E:=by
 refine dz g.ok hx (by k_is) (by k_is) (by decide) hp (h.imp (fun l σ₁ qA=>?_) fun ux ux e=>e)
 obtain ⟨v,hl,h1,h2⟩:=qA
 subst hl
 refine gd.forget (EU g (by k_is) (by k_is) (by k_is) fun cx' y dx g' hy hdx hne=>?_)
 refine DJ (ps:=[aa "self",aa "cells"]) g'.ok (ed (by k_is) (by k_is) (by k_is) (nB rfl fun ux ux=>rfl) (by decide) rfl rfl rfl (by decide)) rfl fun cx ok hfe hhd=>?_
 have g:Fx af (hK w.params) cx _ (n+1):=⟨ok,hfe,hhd.trans g'.hh⟩
 (repeat' (first|(with_reducible first|refine av ?_|refine eF ?_|refine aN ?_|refine vW ?_|fail)|walk_at "n"|walk_at "k"|((with_reducible refine rf ?qa ?_);(case qa=>(intro env;rfl)))|((with_reducible refine Bb (by assumption) ?qa ?qb ?_);(case qa=>exact rfl);(case qb=>exact ⟨fun ux=>rfl,fun ux=>rfl⟩))|fail))
 refine Bm (fun q=>?_) (fun q1 q2 e he=>?_)
 ·(repeat' (first|(with_reducible first|refine fn ?_|refine av ?_|refine dR ?_|refine aN ?_|refine ite_neg ?_|refine bN ?_|fail)|walk_at "k"|((with_reducible refine And.intro ?qa ?_);(case qa=>(show bM _≤aH;exact am rfl)))|((with_reducible refine' gi (by assumption) ?qa ?qb ?qc ?qd ?qe ?_);(case qa=>exact rfl);(case qb=>k_is);(case qc=>k_exc);(case qd=>decide);(case qe=>(intro env;rfl)))|fail))
  refine ⟨σ₁,⟨fun ux ux e=>e,fun a o e=>?_⟩,h1 (by lia) _ (by k_is)⟩
  exact bH (fun q=>by subst q;rw [hy] at e;cases e) (bH (fun q=>by subst q;rw [hdx] at e;cases e) e)
 ·(repeat' (first|(with_reducible first|refine a' ?_|refine fn ?_|refine aW ?_|refine av ?_|refine bf ?_|refine dR ?_|refine aN ?_|refine ite_neg ?_|fail)|walk_at "n"|walk_at "k"|with_reducible refine mL (fun _=>?_) (fun _=>?_)|((with_reducible refine And.intro ?qa ?_);(case qa=>(show bM _≤aH;exact am rfl)))|((with_reducible refine' gi (by assumption) ?qa ?qb ?qc ?qd ?qe ?_);(case qa=>exact rfl);(case qb=>k_is);(case qc=>k_exc);(case qd=>decide);(case qe=>(intro env;rfl)))|((with_reducible refine ub (by walk_at "ok") ?qa ?_);(case qa=>(intro env;rfl)))|((with_reducible refine' D8 ?qa ?qb ?qc ?qd ?qe ?qf ?qg ?qh ?_);(case qa=>walk_at "hp");(case qb=>walk_at "hp");(case qc=>k_is);(case qd=>k_is);(case qe=>k_is);(case qf=>k_is);(case qg=>exact rfl);(case qh=>exact am rfl))|((with_reducible refine vI (by walk_at "ok") (fun _ _=>?_)))|((with_reducible refine yM (by walk_at "ok") (fun _ _=>?_)))|((with_reducible refine dict1 ?qa ?_);(case qa=>walk_at "hp"))|fail))
  ·rename_i hv S hS H hH
   subst hv
   obtain ⟨σ₀,a1,a2,a3,a4,a5,a6⟩:=xa (K:=(hK w.params)) hy hdx hne hS hH (by k_is) he.1
   exact ⟨rfl,σ₀,a1,h2 e he.1 rfl σ₀ y _ dx S H a2 a3 hy hdx a4 a5 a6⟩
  ·rename_i hv
   refine ⟨σ₁,⟨fun ux ux e=>e,fun a o e=>?_⟩,h1 (.inr (.inr fun m hm=>hv ((CP he).mpr ⟨m,hm⟩))) _ (by k_is)⟩
   exact bH (fun q=>by subst q;rw [hy] at e;cases e) (bH (fun q=>by subst q;rw [hdx] at e;cases e) e)
theorem u6 (g:Fx af (hK w.params) cx sc (n+1)) {o:Expr} {apos:Pos} (he:lP o (aa "free") apos [] pos) (h:bZ af w cx o σ (rO (hK w.params) false Q) E):bZ af w cx (.Call (.Attribute o (aa "free") apos) [] [] pos) σ Q E:=by
 refine il g.ok (by k_is) (by k_is) (by k_is) (by k_is) (by k_is) (fun ux ux ux=>rfl) he (h.imp (fun a σ₁ ⟨y,k,t,C,dx,S,H,sp,hd,ha,hY,hq⟩=>⟨y,k,C,dx,S,H,ha,hY.is,aN ?_⟩) fun ux ux e=>e)
 obtain rfl:=ft hY.is.cls (by k_is)
 refine (eO (ps:=[aa "self"]) g (ed (by k_is) (by k_is) (by k_is) (re rfl fun ux=>rfl) (by decide) rfl rfl rfl (by decide)) rfl fun cx g=>?_)
 have e1:=hY.is.y
 have e2:=hY.is.dx
 have e3:=hY.sS
 have e5:sp.length≤60 * 2 ^ 15+1:=by have:=hY.splen;have:=hY.len;lia
 have e6:aH=2 ^ 24:=rfl
 (repeat' (first|(with_reducible first|refine av ?_|refine cF ?_|fail)|fail))
 refine lT g.ok g.hh ⟨rfl,by decide,by decide,by decide,by decide,rfl⟩ ?_ (fun ux=>rfl)
 (repeat' (first|with_reducible refine aN ?_|walk_at "n"|((with_reducible refine' c9 (by walk_at "ok") ?qa ?qc ?qd ?qe ?qb ?qf ?_);(case qa=>exact rfl);(case qb=>decide);(case qc=>k_is);(case qd=>decide);(case qe=>boot_by_name);(case qf=>exact ⟨fun ux=>rfl,fun ux=>rfl⟩))|((with_reducible refine' dQ (by walk_at "ok") ?qa ?qc ?qd ?qe ?qb ?qf ?_);(case qa=>exact rfl);(case qb=>decide);(case qc=>k_is);(case qd=>decide);(case qe=>boot_by_name);(case qf=>exact ⟨fun ux=>rfl,fun ux=>rfl⟩))|walk_at "k"|((with_reducible refine' cS (by walk_at "ok") ?qa ?_);(case qa=>(intro env;rfl)))|((with_reducible refine' cT ?qa ?qb ?qc ?qd ?qe ?qf ?qg ?qh ?_);(case qa=>walk_at "hp");(case qb=>walk_at "hp");(case qc=>k_is);(case qd=>k_is);(case qe=>k_is);(case qf=>k_is);(case qg=>exact rfl);(case qh=>exact rfl))|((with_reducible refine' gX (by assumption) ?qa ?qb (fun _ _=>?_));(case qa=>walk_at "hp");(case qb=>walk_at "num"))|((with_reducible refine' nI ?qa ?qb (fun _ _ _ _ _=>?_));(case qa=>walk_at "lst");(case qb=>walk_at "num"))|fail))
 rename_i z1 hz1 z2 ms hz2 hp hs
 obtain rfl:=pq (b:=false) hY.rep.sp hp hs
 refine ⟨_,fun ux=>true,vK sp,eS (.inl aX),sd hY.rep.sp (by lia),?_,fun D hD=>?_⟩
 ·intro i a D acc cx' ha hD ok hh
  obtain ⟨p,hp,rfl⟩:=qj ha
  refine ⟨i7 ⟨rfl,AS.Kept.refl _⟩,fun _=>?_⟩
  (repeat' (first|(with_reducible first|refine fU ?_|refine dc ?_|fail)|walk_at "n"|walk_at "k"|((with_reducible refine' cS (by walk_at "ok") ?qa ?_);(case qa=>(intro env;rfl)))|((with_reducible refine' cT ?qa ?qb ?qc ?qd ?qe ?qf ?qg ?qh ?_);(case qa=>walk_at "hp");(case qb=>walk_at "hp");(case qc=>k_is);(case qd=>k_is);(case qe=>k_is);(case qf=>k_is);(case qg=>exact rfl);(case qh=>exact rfl))|fail))
  refine g9 (by walk_at "hp") (hU hY.rep.sp hp) ?_ (by intro _ _;with_unfolding_all rfl)
  (repeat' (first|with_reducible refine aN ?_|((with_reducible refine And.intro ?qa ?_);(case qa=>(show bM _≤aH;exact am rfl)))|fail))
  exact ⟨qS (hU hY.rep.sp hp),AS.Kept.refl _⟩
 ·rw [qi hY.rep.sp]
  (repeat' (first|with_reducible refine ch ?_|fail))
  exact ⟨σ₁.put D _,nU (σ:=(σ₁.put z1 _).put z2 _) (jK (jK e9 hz1) hz2),hq D (eD (eD hD).1).1⟩
theorem tA (g:Fx af (hK w.params) cx sc (n+1)) {o:Expr} {apos:Pos} (he:lP o (aa "out") apos [] pos) (h:bZ af w cx o σ (rO (hK w.params) true Q) E):bZ af w cx (.Call (.Attribute o (aa "out") apos) [] [] pos) σ Q E:=by
 refine il g.ok (by k_is) (by k_is) (by k_is) (by k_is) (by k_is) (fun ux ux ux=>rfl) he (h.imp (fun a σ₁ ⟨y,k,t,C,dx,S,H,sp,hd,ha,hY,hq⟩=>⟨y,k,C,dx,S,H,ha,hY.is,aN ?_⟩) fun ux ux e=>e)
 obtain rfl:=ft hY.is.cls (by k_is)
 refine (eO (ps:=[aa "self"]) g (ed (by k_is) (by k_is) (by k_is) (re rfl fun ux=>rfl) (by decide) rfl rfl rfl (by decide)) rfl fun cx g=>?_)
 have e1:=hY.is.y
 have e2:=hY.is.dx
 have e3:=hY.sH
 have e5:hd.length≤60 * 2 ^ 15+1:=by have:=hY.splen;have:=hY.len;lia
 have e6:aH=2 ^ 24:=rfl
 (repeat' (first|(with_reducible first|refine av ?_|refine cF ?_|fail)|fail))
 refine lT g.ok g.hh ⟨rfl,by decide,by decide,by decide,by decide,rfl⟩ ?_ (fun ux=>rfl)
 (repeat' (first|with_reducible refine aN ?_|walk_at "n"|((with_reducible refine' c9 (by walk_at "ok") ?qa ?qc ?qd ?qe ?qb ?qf ?_);(case qa=>exact rfl);(case qb=>decide);(case qc=>k_is);(case qd=>decide);(case qe=>boot_by_name);(case qf=>exact ⟨fun ux=>rfl,fun ux=>rfl⟩))|((with_reducible refine' dQ (by walk_at "ok") ?qa ?qc ?qd ?qe ?qb ?qf ?_);(case qa=>exact rfl);(case qb=>decide);(case qc=>k_is);(case qd=>decide);(case qe=>boot_by_name);(case qf=>exact ⟨fun ux=>rfl,fun ux=>rfl⟩))|walk_at "k"|((with_reducible refine' cS (by walk_at "ok") ?qa ?_);(case qa=>(intro env;rfl)))|((with_reducible refine' cT ?qa ?qb ?qc ?qd ?qe ?qf ?qg ?qh ?_);(case qa=>walk_at "hp");(case qb=>walk_at "hp");(case qc=>k_is);(case qd=>k_is);(case qe=>k_is);(case qf=>k_is);(case qg=>exact rfl);(case qh=>exact rfl))|((with_reducible refine' gX (by assumption) ?qa ?qb (fun _ _=>?_));(case qa=>walk_at "hp");(case qb=>walk_at "num"))|((with_reducible refine' nI ?qa ?qb (fun _ _ _ _ _=>?_));(case qa=>walk_at "lst");(case qb=>walk_at "num"))|fail))
 rename_i z1 hz1 z2 ms hz2 hp hs
 obtain rfl:=pq (b:=true) hY.rep.hd hp hs
 refine ⟨_,fun ux=>true,vK hd,eS (.inl aX),sd hY.rep.hd (by lia),?_,fun D hD=>?_⟩
 ·intro i a D acc cx' ha hD ok hh
  obtain ⟨p,hp,rfl⟩:=qj ha
  refine ⟨i7 ⟨rfl,AS.Kept.refl _⟩,fun _=>?_⟩
  (repeat' (first|(with_reducible first|refine fU ?_|refine dc ?_|fail)|walk_at "n"|walk_at "k"|((with_reducible refine' cS (by walk_at "ok") ?qa ?_);(case qa=>(intro env;rfl)))|((with_reducible refine' cT ?qa ?qb ?qc ?qd ?qe ?qf ?qg ?qh ?_);(case qa=>walk_at "hp");(case qb=>walk_at "hp");(case qc=>k_is);(case qd=>k_is);(case qe=>k_is);(case qf=>k_is);(case qg=>exact rfl);(case qh=>exact rfl))|fail))
  refine g9 (by walk_at "hp") (hU hY.rep.hd hp) ?_ (by intro _ _;with_unfolding_all rfl)
  (repeat' (first|with_reducible refine aN ?_|((with_reducible refine And.intro ?qa ?_);(case qa=>(show bM _≤aH;exact am rfl)))|fail))
  exact ⟨qS (hU hY.rep.hd hp),AS.Kept.refl _⟩
 ·rw [qi hY.rep.hd]
  (repeat' (first|with_reducible refine ch ?_|fail))
  exact ⟨σ₁.put D _,nU (σ:=(σ₁.put z1 _).put z2 _) (jK (jK e9 hz1) hz2),hq D (eD (eD hD).1).1⟩
theorem qB (g:Fx af (hK w.params) cx sc (n+2)) {o:Expr} {apos:Pos} {args:List Expr} (he:lP o (aa "fitting") apos args pos) (h:bZ af w cx o σ (oD (hK w.params) fun y σ₁=>fN af w cx pos args σ₁ (DS (hK w.params) E Q y) E) E):bZ af w cx (.Call (.Attribute o (aa "fitting") apos) args [] pos) σ Q E:=by
 refine il g.ok (by k_is) (by k_is) (by k_is) (by k_is) (by k_is) (fun ux ux ux=>rfl) he (iG h fun y l σ₁ qA=>?_)
 obtain ⟨v,hl,k,C,dx,S,H,hY,hk,h1,h2,h3⟩:=qA
 subst hl
 obtain rfl:=ft hY.cls (by k_is)
 refine eT (ps:=[aa "self",aa "want"]) g (ed (by k_is) (by k_is) (by k_is) (nB rfl fun ux ux=>rfl) (by decide) rfl rfl rfl (by decide)) rfl fun cx g=>?_
 have e1:=hY.y
 have e2:=hY.dx
 have e3:=gI hk
 (repeat' (first|(with_reducible first|refine a' ?_|refine fn ?_|refine aW ?_|refine av ?_|refine eF ?_|refine cF ?_|refine bf ?_|refine dR ?_|refine aN ?_|refine eU ?_|refine jT ?_|fail)|walk_at "n"|walk_at "k"|((with_reducible refine bI ?qa ?_);(case qa=>with_unfolding_all rfl))|with_reducible refine cz (fun _=>?_) (fun _=>?_)|((with_reducible refine And.intro ?qa ?_);(case qa=>(show bM _≤aH;exact am rfl)))|((with_reducible refine' gi (by assumption) ?qa ?qb ?qc ?qd ?qe ?_);(case qa=>exact rfl);(case qb=>k_is);(case qc=>k_exc);(case qd=>decide);(case qe=>(intro env;rfl)))|((with_reducible refine' cS (by walk_at "ok") ?qa ?_);(case qa=>(intro env;rfl)))|((with_reducible refine' cT ?qa ?qb ?qc ?qd ?qe ?qf ?qg ?qh ?_);(case qa=>walk_at "hp");(case qb=>walk_at "hp");(case qc=>k_is);(case qd=>k_is);(case qe=>k_is);(case qf=>k_is);(case qg=>exact rfl);(case qh=>exact rfl))|((with_reducible refine qz (by assumption) ?qa ?qb ?_);(case qa=>exact rfl);(case qb=>exact ⟨fun ux=>rfl,fun ux=>rfl⟩))|fail))
 ·exact ⟨fun ux ux e=>e,h1 (by lia) _ (by k_is)⟩
 ·exact ⟨fun ux ux e=>e,h2 (by lia) _ (by k_is)⟩
 ·refine qE (fun q=>by lia) fun q1 q2 e he=>?_
  (repeat' (first|with_reducible refine ch ?_|fail))
  exact ⟨fun ux ux e=>e,h3 (by lia) (by lia) e he (fit_le he (by lia))⟩
theorem wW (g:Fx af (hK w.params) cx sc (n+1)) {o:Expr} {apos:Pos} {args:List Expr} (he:lP o (aa "halve") apos args pos) (h:bZ af w cx o σ (oD (hK w.params) fun y σ₁=>fN af w cx pos args σ₁ (w9 (hK w.params) Q y) E) E):bZ af w cx (.Call (.Attribute o (aa "halve") apos) args [] pos) σ Q E:=by
 refine il g.ok (by k_is) (by k_is) (by k_is) (by k_is) (by k_is) (fun ux ux ux=>rfl) he (iG h fun y l σ₁ qA=>?_)
 obtain ⟨x,i,j,hl,hji,hi,k,C,dx,S,H,sp,hY,hS,hlen,hno,hq⟩:=qA
 subst hl
 obtain rfl:=ft hY.cls (by k_is)
 refine (eO (ps:=[aa "self",aa "at",aa "size",aa "wanted"]) g (ed (by k_is) (by k_is) (by k_is) (Cq rfl fun ux ux ux ux=>rfl) (by decide) rfl rfl rfl (by decide)) rfl fun cx g=>?_)
 have e1:=hY.y
 have e2:=hY.dx
 have e6:aH=2 ^ 24:=rfl
 refine av ?_
 refine li g (fun m σ=>j+m≤i∧σ.loc (aa "self")=some (.ref y)∧σ.loc (aa "at")=some (.int x)∧σ.loc (aa "wanted")=some (.int (2 ^ j))∧σ.loc (aa "size")=some (.int (2 ^ (j+m)))∧(σ₁.put S (.dict (sp++nh x i (j+m)))).Sub σ) (i - j) ?_ ?_
 ·rw [show j+(i - j)=i by lia,r7,cA]
  refine ⟨by lia,by walk_at "lk",by walk_at "lk",by walk_at "lk",by walk_at "lk",fun a o e=>?_⟩
  unfold AS.put at e
  dsimp only at e
  split at e
  ·rename_i q;subst q;cases e;exact hS
  ·exact e
 ·rintro m σ ⟨j0,j1,j2,j3,j4,j5⟩
  have f1:(σ₁.put S (.dict (sp++nh x i (j+m)))).hp y=some _:=bH (be e1 hS (by intro q;cases q)) e1
  have f2:(σ₁.put S (.dict (sp++nh x i (j+m)))).hp dx=some _:=bH (be e2 hS (by intro q;cases q)) e2
  have f3:(σ₁.put S (.dict (sp++nh x i (j+m)))).hp S=some _:=aX
  have f1:=j5 _ _ f1
  have f2:=j5 _ _ f2
  have f3:=j5 _ _ f3
  have hlen':(sp++nh x i (j+m)).length≤60 * 2 ^ 15+1+60:=by rw [au];have:=@vJ x (j+m) i;lia
  cases m with
  |zero =>
   (repeat' (first|(with_reducible first|refine a' ?_|refine fn ?_|refine aW ?_|refine av ?_|refine cG ?_|refine bf ?_|refine eI ?_|refine jT ?_|fail)|((with_reducible refine aT (by walk_at "ok") ?qa ?qb ?_);(case qa=>exact rfl);(case qb=>exact rfl))|walk_at "n"|((with_reducible refine bI ?qa ?_);(case qa=>with_unfolding_all rfl))|((with_reducible refine v_div (by walk_at "ok") ?qa ?_);(case qa=>walk_at "pos"))|with_reducible refine cz (fun _=>?_) (fun _=>?_)|((with_reducible refine' cS (by walk_at "ok") ?qa ?_);(case qa=>(intro env;rfl)))|((with_reducible refine' cT ?qa ?qb ?qc ?qd ?qe ?qf ?qg ?qh ?_);(case qa=>walk_at "hp");(case qb=>walk_at "hp");(case qc=>k_is);(case qd=>k_is);(case qe=>k_is);(case qf=>k_is);(case qg=>exact rfl);(case qh=>exact rfl))|((with_reducible refine eP ?qa ?_);(case qa=>(intro env;rfl)))|fail))
   ·rename_i q;exact absurd q (by simp)
   ·exact ⟨σ₁.put S (.dict (sp++nh x i j)),⟨fun ux ux e=>e,j5⟩,hq⟩
  |succ m =>
   (repeat' (first|(with_reducible first|refine a' ?_|refine fn ?_|refine aW ?_|refine av ?_|refine cG ?_|refine bf ?_|refine eI ?_|refine jT ?_|fail)|((with_reducible refine aT (by walk_at "ok") ?qa ?qb ?_);(case qa=>exact rfl);(case qb=>exact rfl))|walk_at "n"|((with_reducible refine bI ?qa ?_);(case qa=>with_unfolding_all rfl))|((with_reducible refine v_div (by walk_at "ok") ?qa ?_);(case qa=>walk_at "pos"))|with_reducible refine cz (fun _=>?_) (fun _=>?_)|((with_reducible refine' cS (by walk_at "ok") ?qa ?_);(case qa=>(intro env;rfl)))|((with_reducible refine' cT ?qa ?qb ?qc ?qd ?qe ?qf ?qg ?qh ?_);(case qa=>walk_at "hp");(case qb=>walk_at "hp");(case qc=>k_is);(case qd=>k_is);(case qe=>k_is);(case qf=>k_is);(case qg=>exact rfl);(case qh=>exact rfl))|((with_reducible refine eP ?qa ?_);(case qa=>(intro env;rfl)))|fail))
   ·refine f9 (by walk_at "hp") (by lia) ?_
    (repeat' (first|(with_reducible first|refine a' ?_|refine aW ?_|fail)|fail))
    refine ⟨m,by lia,by lia,by walk_at "lk",by walk_at "lk",by walk_at "lk",?_,?_⟩
    ·rw [vN rfl,gm]
     rw [← dY,sJ]
    ·rw [← dY,sJ,B1 (show j+m<i by lia) hno]
     exact se j5
   ·rename_i q
    exact absurd (gp (show j<j+(m+1) by lia)) q
theorem Bd (g:Fx af (hK w.params) cx sc (n+3)) {o:Expr} {apos:Pos} {args:List Expr} (he:lP o (aa "give") apos args pos) (h:bZ af w cx o σ (oD (hK w.params) fun y σ₁=>fN af w cx pos args σ₁ (rQ (hK w.params) E Q y) E) E):bZ af w cx (.Call (.Attribute o (aa "give") apos) args [] pos) σ Q E:=by
 refine il g.ok (by k_is) (by k_is) (by k_is) (by k_is) (by k_is) (fun ux ux ux=>rfl) he (iG h fun y l σ₁ qA=>?_)
 obtain ⟨v,hl,k,t,C,dx,S,H,sp,hd,hY,hlen,h1,h2,h3⟩:=qA
 subst hl
 obtain rfl:=ft hY.is.cls (by k_is)
 refine (eO (ps:=[aa "self",aa "want"]) g (ed (by k_is) (by k_is) (by k_is) (nB rfl fun ux ux=>rfl) (by decide) rfl rfl rfl (by decide)) rfl fun cx g=>?_)
 have e1:=hY.is.y
 have e2:=hY.is.dx
 have e3:=hY.sS
 have e4:=hY.sH
 have e5:=hY.splen
 have e6:aH=2 ^ 24:=rfl
 have e7:=hY.k60
 (repeat' (first|(with_reducible first|refine av ?_|refine aN ?_|fail)|((with_reducible refine aT (by walk_at "ok") ?qa ?qb ?_);(case qa=>exact rfl);(case qb=>exact rfl))|walk_at "n"|walk_at "k"|((with_reducible refine' jk ?qa ?_);(case qa=>exact je.mk (by k_is) (by walk_at "hp") (by walk_at "hp")))|((with_reducible refine qB (by assumption) ?qa ?_);(case qa=>exact ⟨⟨_,fun ux=>rfl⟩,fun ux=>rfl⟩))|fail))
 refine ⟨v,rfl,k,_,dx,S,H,⟨hY.is.cls,by walk_at "hp",by walk_at "hp"⟩,hY.k60,fun q C hC=>⟨σ₁,e9,h1 q C hC⟩,fun q C hC=>⟨σ₁,e9,h2 q C hC⟩,fun q1 q2 j hj hjk=>?_⟩
 obtain ⟨h4,h5⟩:=h3 q1 q2 j hj hjk
 (repeat' (first|(with_reducible first|refine a' ?_|refine av ?_|refine jO ?_|fail)|((with_reducible refine aT (by walk_at "ok") ?qa ?qb ?_);(case qa=>exact rfl);(case qb=>exact rfl))|fail))
 refine gG g rfl (fun ux=>rfl) ?_
 (repeat' (first|with_reducible refine aN ?_|walk_at "n"|((with_reducible refine' c9 (by walk_at "ok") ?qa ?qc ?qd ?qe ?qb ?qf ?_);(case qa=>exact rfl);(case qb=>decide);(case qc=>k_is);(case qd=>decide);(case qe=>boot_by_name);(case qf=>exact ⟨fun ux=>rfl,fun ux=>rfl⟩))|((with_reducible refine' dQ (by walk_at "ok") ?qa ?qc ?qd ?qe ?qb ?qf ?_);(case qa=>exact rfl);(case qb=>decide);(case qc=>k_is);(case qd=>decide);(case qe=>boot_by_name);(case qf=>exact ⟨fun ux=>rfl,fun ux=>rfl⟩))|walk_at "k"|((with_reducible refine' cS (by walk_at "ok") ?qa ?_);(case qa=>(intro env;rfl)))|((with_reducible refine' cT ?qa ?qb ?qc ?qd ?qe ?qf ?qg ?qh ?_);(case qa=>walk_at "hp");(case qb=>walk_at "hp");(case qc=>k_is);(case qd=>k_is);(case qe=>k_is);(case qf=>k_is);(case qg=>exact rfl);(case qh=>exact rfl))|((with_reducible refine' gX (by assumption) ?qa ?qb (fun _ _=>?_));(case qa=>walk_at "hp");(case qb=>walk_at "num"))|((with_reducible refine' nI ?qa ?qb (fun _ _ _ _ _=>?_));(case qa=>walk_at "lst");(case qb=>walk_at "num"))|fail))
 rename_i z1 hz1 z2 ms hz2 hp hs
 obtain rfl:=pq (b:=false) hY.rep.sp hp hs
 refine ⟨z2,_,fun i σ=>∃ f:Option Int,σ.loc (aa "found")=some (fv f)∧σ.loc (aa "self")=some (.ref y)∧σ.loc (aa "wanted")=some (.int (2 ^ j))∧vA sp (2 ^ j) (((cI false 0 t).map (·.1)).take i) f∧σ₁.Sub σ∧σ.hp z2=some (.list (((cI false 0 t).map (·.1)).map AV.int)),rfl,⟨none,by show _=some AV.none;walk_at "lk",by walk_at "lk",by walk_at "lk",fun a ha=>(by simp at ha),by walk_at "sub",by walk_at "hp"⟩,fun i σ ⟨f,_,_,_,_,_,q⟩=>q,?_,?_⟩
 ·rintro i a σ cx g ha ⟨f,j1,j2,j3,j4,j5,j6⟩
  obtain ⟨p,hp,rfl,hi,hle⟩:=uk ha
  have f1:=j5 _ _ e1
  have f2:=j5 _ _ e2
  have f3:=j5 _ _ e3
  have hg:=hU hY.rep.sp hp
  (repeat' (first|(with_reducible first|refine av ?_|refine dc ?_|fail)|((with_reducible refine aT (by walk_at "ok") ?qa ?qb ?_);(case qa=>exact rfl);(case qb=>exact rfl))|walk_at "n"|((with_reducible refine' cS (by walk_at "ok") ?qa ?_);(case qa=>(intro env;rfl)))|((with_reducible refine' cT ?qa ?qb ?qc ?qd ?qe ?qf ?qg ?qh ?_);(case qa=>walk_at "hp");(case qb=>walk_at "hp");(case qc=>k_is);(case qd=>k_is);(case qe=>k_is);(case qf=>k_is);(case qg=>exact rfl);(case qh=>exact rfl))|fail))
  refine g9 (by walk_at "hp") hg ?_ (by intro _ _;with_unfolding_all rfl)
  have hT:∀ s,du sp p.1=some s→s=p.2:=fun s q=>by rw [hg] at q;injection q with q;exact q.symm
  cases f with
  |none =>
   change _=some AV.none at j1
   (repeat' (first|(with_reducible first|refine a' ?_|refine fn ?_|refine aW ?_|refine av ?_|refine eF ?_|refine jO ?_|refine eZ ?_|refine iB ?_|refine qt ?_|refine mK ?_|refine rt ?_|refine cU ?_|refine bN ?_|refine Dx ?_|fail)|((with_reducible refine aT (by walk_at "ok") ?qa ?qb ?_);(case qa=>exact rfl);(case qb=>exact rfl))|walk_at "n"|((with_reducible refine bI ?qa ?_);(case qa=>with_unfolding_all rfl))|with_reducible refine cz (fun _=>?_) (fun _=>?_)|fail))
   ·refine ⟨some p.1,by show _=some (AV.int p.1);walk_at "lk",by walk_at "lk",by walk_at "lk",?_,by walk_at "sub",by walk_at "hp"⟩
    rw [take_snoc hi]
    exact j4.take hg (by lia) fun x u q=>by cases q
   ·refine ⟨none,by show _=some AV.none;walk_at "lk",by walk_at "lk",by walk_at "lk",?_,by walk_at "sub",by walk_at "hp"⟩
    rw [take_snoc hi]
    exact j4.skip hg hle (.inl (by lia))
  |some x =>
   change _=some (AV.int x) at j1
   obtain ⟨b1,s,b2,b3,b4⟩:=id j4
   (repeat' (first|(with_reducible first|refine a' ?_|refine fn ?_|refine aW ?_|refine av ?_|refine eF ?_|refine jO ?_|refine eZ ?_|refine qt ?_|refine mK ?_|refine dc ?_|refine rt ?_|refine bN ?_|refine Dy ?_|fail)|walk_at "n"|((with_reducible refine bI ?qa ?_);(case qa=>with_unfolding_all rfl))|with_reducible refine cz (fun _=>?_) (fun _=>?_)|((with_reducible refine' cS (by walk_at "ok") ?qa ?_);(case qa=>(intro env;rfl)))|((with_reducible refine' cT ?qa ?qb ?qc ?qd ?qe ?qf ?qg ?qh ?_);(case qa=>walk_at "hp");(case qb=>walk_at "hp");(case qc=>k_is);(case qd=>k_is);(case qe=>k_is);(case qf=>k_is);(case qg=>exact rfl);(case qh=>exact rfl))|fail))
   ·refine g9 (by walk_at "hp") b2 ?_ (by intro _ _;with_unfolding_all rfl)
    (repeat' (first|(with_reducible first|refine a' ?_|refine fn ?_|refine aW ?_|refine av ?_|refine iB ?_|refine eQ ?_|refine eU ?_|refine cU ?_|refine bN ?_|fail)|((with_reducible refine aT (by walk_at "ok") ?qa ?qb ?_);(case qa=>exact rfl);(case qb=>exact rfl))|walk_at "n"|with_reducible refine cz (fun _=>?_) (fun _=>?_)|fail))
    ·refine ⟨some p.1,by show _=some (AV.int p.1);walk_at "lk",by walk_at "lk",by walk_at "lk",?_,by walk_at "sub",by walk_at "hp"⟩
     rw [take_snoc hi]
     exact j4.take hg (by lia) fun x' u q1 q2=>by cases q1;rw [b2] at q2;cases q2;lia
    ·refine ⟨some x,by show _=some (AV.int x);walk_at "lk",by walk_at "lk",by walk_at "lk",?_,by walk_at "sub",by walk_at "hp"⟩
     rw [take_snoc hi]
     exact j4.skip hg hle (.inr ⟨x,s,rfl,b2,by lia⟩)
   ·refine ⟨some x,by show _=some (AV.int x);walk_at "lk",by walk_at "lk",by walk_at "lk",?_,by walk_at "sub",by walk_at "hp"⟩
    rw [take_snoc hi]
    exact j4.skip hg hle (.inl (by lia))
 ·rintro σ ⟨f,j1,j2,j3,j4,j5,j6⟩
  rw [cB (by simp)] at j4
  have f1:=j5 _ _ e1
  have f2:=j5 _ _ e2
  have f3:=j5 _ _ e3
  have f4:=j5 _ _ e4
  cases f with
  |none =>
   change _=some AV.none at j1
   (repeat' (first|(with_reducible first|refine a' ?_|refine fn ?_|refine av ?_|refine eF ?_|refine jO ?_|refine dR ?_|refine aN ?_|refine cU ?_|refine Dx ?_|fail)|walk_at "n"|walk_at "k"|((with_reducible refine bI ?qa ?_);(case qa=>with_unfolding_all rfl))|((with_reducible refine And.intro ?qa ?_);(case qa=>(show bM _≤aH;exact am rfl)))|((with_reducible refine' gi (by assumption) ?qa ?qb ?qc ?qd ?qe ?_);(case qa=>exact rfl);(case qb=>k_is);(case qc=>k_exc);(case qd=>decide);(case qe=>(intro env;rfl)))|fail))
   exact ⟨σ₁,⟨fun ux ux e=>e,j5⟩,h4 (fun p hp=>j4 p.1 (bx.mpr ⟨p,hp,rfl⟩) _ (hU hY.rep.sp hp)) _ (by k_is)⟩
  |some x =>
   change _=some (AV.int x) at j1
   obtain ⟨b1,s,b2,b3,b4⟩:=id j4
   have hm:(x,s)∈cI false 0 t:=hY.rep.sp.mem_iff.mp ((cH hY.rep.ksp).mp b2)
   obtain ⟨i,hik,rfl⟩:=vO hm
   have hji:j≤i:=iE.mp b3
   obtain ⟨t',r1,r2,r3,r4⟩:=hY.rep.give ((cH hY.rep.ksp).mp b2) hji
   (repeat' (first|(with_reducible first|refine a' ?_|refine fn ?_|refine aW ?_|refine av ?_|refine eF ?_|refine jO ?_|refine aN ?_|refine bN ?_|refine Dy ?_|fail)|((with_reducible refine aT (by walk_at "ok") ?qa ?qb ?_);(case qa=>exact rfl);(case qb=>exact rfl))|walk_at "n"|walk_at "k"|((with_reducible refine bI ?qa ?_);(case qa=>with_unfolding_all rfl))|((with_reducible refine' cS (by walk_at "ok") ?qa ?_);(case qa=>(intro env;rfl)))|((with_reducible refine' cT ?qa ?qb ?qc ?qd ?qe ?qf ?qg ?qh ?_);(case qa=>walk_at "hp");(case qb=>walk_at "hp");(case qc=>k_is);(case qd=>k_is);(case qe=>k_is);(case qf=>k_is);(case qg=>exact rfl);(case qh=>exact rfl))|((with_reducible refine' mG ?qa ?_);(case qa=>walk_at "hp"))|((with_reducible refine fq ?qa ?qb ?qc ?qd ?_);(case qa=>(intro env;rfl));(case qb=>(intro env;rfl));(case qc=>exact rfl);(case qd=>(intro env;rfl)))|fail))
   refine rx (by walk_at "hp") (by lia) b2 ?_
   (repeat' (first|(with_reducible first|refine a' ?_|refine av ?_|refine aN ?_|fail)|walk_at "n"|walk_at "k"|((with_reducible refine gM (by walk_at "ok") ?qa ?_);(case qa=>(intro env;rfl)))|((with_reducible refine' jk ?qa ?_);(case qa=>exact je.mk (by k_is) (by walk_at "hp") (by walk_at "hp")))|((with_reducible refine wW (by assumption) ?qa ?_);(case qa=>exact ⟨⟨_,fun ux=>rfl⟩,fun ux=>rfl⟩))|fail))
   have hdl:(dS sp x).length≤sp.length:=kG
   refine ⟨x,i,j,rfl,hji,by lia,k,_,dx,S,H,dS sp x,⟨hY.is.cls,by walk_at "hp",by walk_at "hp"⟩,by walk_at "hp",by lia,r4,?_⟩
   (repeat' (first|(with_reducible first|refine a' ?_|refine av ?_|fail)|walk_at "n"|((with_reducible refine' cS (by walk_at "ok") ?qa ?_);(case qa=>(intro env;rfl)))|((with_reducible refine' cT ?qa ?qb ?qc ?qd ?qe ?qf ?qg ?qh ?_);(case qa=>walk_at "hp");(case qb=>walk_at "hp");(case qc=>k_is);(case qd=>k_is);(case qe=>k_is);(case qf=>k_is);(case qg=>exact rfl);(case qh=>exact rfl))|((with_reducible refine eP ?qa ?_);(case qa=>(intro env;rfl)))|fail))
   have hne:=hY.ne
   refine f9 (by walk_at "hp") (by have:=hY.len;lia) ?_
   (repeat' (first|(with_reducible first|refine a' ?_|refine ch ?_|refine av ?_|refine cF ?_|fail)|walk_at "n"|fail))
   rw [mV r3]
   refine ⟨_,mJ rfl (by walk_at "hp") (by walk_at "hp") ?_,h5 x i t' _ hm hji (fun p hp hpj=>?_) r1 (r2 hY.cn)⟩
   ·intro a o n1 n2 q
    walk_at "hp"
   ·have:=b4 p.1 (bx.mpr ⟨p,hp,rfl⟩) p.2 (hU hY.rep.sp hp) hpj
    exact this
theorem rz (g:Gx af (hK w.params) cx sc (n+2)) (hb:cx.A.handled=none∨∀ σ,E .none σ) {o:Expr} {apos:Pos} {args:List Expr} (he:lP o (aa "take_back") apos args pos) (h:bZ af w cx o σ (oD (hK w.params) fun y σ₁=>fN af w cx pos args σ₁ (rP (hK w.params) E Q y) E) E):bZ af w cx (.Call (.Attribute o (aa "take_back") apos) args [] pos) σ Q E:=by
 refine il g.ok (by k_is) (by k_is) (by k_is) (by k_is) (by k_is) (fun ux ux ux=>rfl) he (iG h fun y l σ₁ qA=>?_)
 obtain ⟨x,hl,k,t,C,dx,S,H,sp,hd,hY,h1,h2⟩:=qA
 subst hl
 obtain rfl:=ft hY.is.cls (by k_is)
 refine (yt (ps:=[aa "self",aa "at"]) g (ed (by k_is) (by k_is) (by k_is) (nB rfl fun ux ux=>rfl) (by decide) rfl rfl rfl (by decide)) rfl fun cx g hh=>?_)
 have h0:cx.A.handled=none∨∃ σ,yE E σ₁.loc .none σ:=hb.imp (fun q=>hh.trans q) fun q=>⟨σ₁,σ₁,e9,q σ₁⟩
 have e1:=hY.is.y
 have e2:=hY.is.dx
 have e3:=hY.sS
 have e4:=hY.sH
 have e5:=hY.splen
 have e6:aH=2 ^ 24:=rfl
 have e7:=hY.k60
 have e8:=hY.len
 have hne:=hY.ne
 (repeat' (first|(with_reducible first|refine fn ?_|refine av ?_|refine eF ?_|refine ite_neg ?_|fail)|walk_at "n"|((with_reducible refine bI ?qa ?_);(case qa=>with_unfolding_all rfl))|((with_reducible refine' cS (by walk_at "ok") ?qa ?_);(case qa=>(intro env;rfl)))|((with_reducible refine' cT ?qa ?qb ?qc ?qd ?qe ?qf ?qg ?qh ?_);(case qa=>walk_at "hp");(case qb=>walk_at "hp");(case qc=>k_is);(case qd=>k_is);(case qe=>k_is);(case qf=>k_is);(case qg=>exact rfl);(case qh=>exact rfl))|((with_reducible refine' kH ?qa ?_);(case qa=>walk_at "hp"))|fail))
 cases hx:du hd x with
 |none =>
  (repeat' (first|(with_reducible first|refine av ?_|refine dR ?_|refine aN ?_|refine sF ?_|fail)|walk_at "k"|((with_reducible refine And.intro ?qa ?_);(case qa=>(show bM _≤aH;exact am rfl)))|((with_reducible refine' rT (by assumption) ?qa ?qb ?qc ?qd ?qe ?qf ?_);(case qa=>exact rfl);(case qb=>k_is);(case qc=>k_exc);(case qd=>decide);(case qe=>(intro env;rfl));(case qf=>assumption))|fail))
  exact ⟨σ₁,e9,h1 hx _ (by k_is)⟩
 |some s =>
  obtain ⟨i,rfl,hik,T⟩:=TB.start hY.rep hY.cn ((cH hY.rep.khd).mp hx)
  (repeat' (first|(with_reducible first|refine a' ?_|refine aW ?_|refine av ?_|refine aN ?_|refine sE ?_|fail)|((with_reducible refine aT (by walk_at "ok") ?qa ?qb ?_);(case qa=>exact rfl);(case qb=>exact rfl))|walk_at "n"|walk_at "k"|((with_reducible refine' cS (by walk_at "ok") ?qa ?_);(case qa=>(intro env;rfl)))|((with_reducible refine' cT ?qa ?qb ?qc ?qd ?qe ?qf ?qg ?qh ?_);(case qa=>walk_at "hp");(case qb=>walk_at "hp");(case qc=>k_is);(case qd=>k_is);(case qe=>k_is);(case qf=>k_is);(case qg=>exact rfl);(case qh=>exact rfl))|((with_reducible refine' mG ?qa ?_);(case qa=>walk_at "hp"))|((with_reducible refine fq ?qa ?qb ?qc ?qd ?_);(case qa=>(intro env;rfl));(case qb=>(intro env;rfl));(case qc=>exact rfl);(case qd=>(intro env;rfl)))|fail))
  refine rx (by walk_at "hp") (by lia) hx ?_
  (repeat' (first|(with_reducible first|refine a' ?_|refine av ?_|fail)|((with_reducible refine aT (by walk_at "ok") ?qa ?qb ?_);(case qa=>exact rfl);(case qb=>exact rfl))|walk_at "n"|fail))
  refine yH g (fun m σ=>∃ e,∃ u:Int,∃ sp',m=k - e∧TB k e u sp' (dS hd x)∧sp'.length≤sp.length∧σ.loc (aa "self")=some (.ref y)∧σ.loc (aa "at")=some (.int u)∧σ.loc (aa "had")=some (.int (2 ^ i))∧σ.loc (aa "size")=some (.int (2 ^ e)) ∧
   σ.hp S=some (.dict sp')∧σ.hp H=some (.dict (dS hd x))∧σ₁.But S H σ) (k - i) ⟨i,x,sp,rfl,T,aU _,by walk_at "lk",by walk_at "lk",by walk_at "lk",by walk_at "lk",by walk_at "hp",by walk_at "hp",fun a o n1 n2 q=>by walk_at "hp"⟩ ?_
  rintro m σ ⟨e,u,sp',hm,T,hl,j1,j2,j3,j4,j5,j6,j7⟩
  have f1:=j7 _ _ (be e1 e3 (by intro q;cases q)) (be e1 e4 (by intro q;cases q)) e1
  have f2:=j7 _ _ (be e2 e3 (by intro q;cases q)) (be e2 e4 (by intro q;cases q)) e2
  have hek:=T.le
  have hpe:=dI e
  have fin:∀ t':BT k,cn t'→hV t' (iH sp' u (2 ^ e)) (dS hd x)→Fj Q σ₁.loc (.ret (.int (2 ^ i))) (σ.put S (.dict (iH sp' u (2 ^ e)))):=fun t' c r =>
   ⟨_,mJ rfl aX (bH (bl hne) j6) fun a o n1 n2 q=>bH n1 (j7 a o n1 n2 q),h2 i t' _ hx hik r c⟩
  (repeat' (first|(with_reducible first|refine a' ?_|refine fn ?_|refine av ?_|refine aN ?_|refine eZ ?_|refine qt ?_|refine eU ?_|refine bN ?_|fail)|walk_at "n"|walk_at "k"|((with_reducible refine bI ?qa ?_);(case qa=>with_unfolding_all rfl))|with_reducible refine cz (fun _=>?_) (fun _=>?_)|((with_reducible refine' cS (by walk_at "ok") ?qa ?_);(case qa=>(intro env;rfl)))|((with_reducible refine' cT ?qa ?qb ?qc ?qd ?qe ?qf ?qg ?qh ?_);(case qa=>walk_at "hp");(case qb=>walk_at "hp");(case qc=>k_is);(case qd=>k_is);(case qe=>k_is);(case qf=>k_is);(case qg=>exact rfl);(case qh=>exact rfl))|((with_reducible refine eP ?qa ?_);(case qa=>(intro env;rfl)))|((with_reducible refine' ss ?qa ?_);(case qa=>walk_at "hp"))|((with_reducible refine' AZ ?qa ?_);(case qa=>walk_at "hp"))|((with_reducible refine fq ?qa ?qb ?qc ?qd ?_);(case qa=>(intro env;rfl));(case qb=>(intro env;rfl));(case qc=>exact rfl);(case qd=>(intro env;rfl)))|((with_reducible refine A4 (by first|assumption|exact Fx.gx (by assumption)) ?qa ?qb ?_);(case qa=>exact rfl);(case qb=>exact ⟨fun ux=>rfl,fun ux=>rfl⟩))|((with_reducible refine Bl ?qa ?_);(case qa=>walk_at "pos"))|fail))
  ·have hlt:e<k:=dj fun q=>by have:=iF q;lia
   obtain ⟨s1,s2⟩:=T.step hlt
   cases hg:du sp' (kg u (2 ^ e)) with
   |none =>
    rw [show du sp' (if u / 2 ^ e % 2=0 then u+2 ^ e else u - 2 ^ e)=none from hg]
    (repeat' (first|(with_reducible first|refine a' ?_|refine fn ?_|refine av ?_|refine bN ?_|fail)|walk_at "n"|((with_reducible refine' cS (by walk_at "ok") ?qa ?_);(case qa=>(intro env;rfl)))|((with_reducible refine' cT ?qa ?qb ?qc ?qd ?qe ?qf ?qg ?qh ?_);(case qa=>walk_at "hp");(case qb=>walk_at "hp");(case qc=>k_is);(case qd=>k_is);(case qe=>k_is);(case qf=>k_is);(case qg=>exact rfl);(case qh=>exact rfl))|((with_reducible refine eP ?qa ?_);(case qa=>(intro env;rfl)))|((with_reducible refine' tn (by walk_at "ok") ?_))|fail))
    obtain ⟨t',c,r⟩:=s2 (by rw [hg];intro q;cases q)
    refine f9 (by walk_at "hp") (by lia) ?_
    (repeat' (first|(with_reducible first|refine a' ?_|refine ch ?_|refine av ?_|refine cF ?_|fail)|walk_at "n"|fail))
    exact fin t' c r
   |some v =>
    rw [show du sp' (if u / 2 ^ e % 2=0 then u+2 ^ e else u - 2 ^ e)=some v from hg]
    (repeat' (first|(with_reducible first|refine a' ?_|refine fn ?_|refine av ?_|refine aN ?_|refine iB ?_|refine nE ?_|refine cU ?_|refine bN ?_|fail)|((with_reducible refine aT (by walk_at "ok") ?qa ?qb ?_);(case qa=>exact rfl);(case qb=>exact rfl))|walk_at "n"|walk_at "k"|with_reducible refine mL (fun _=>?_) (fun _=>?_)|((with_reducible refine' cS (by walk_at "ok") ?qa ?_);(case qa=>(intro env;rfl)))|((with_reducible refine' cT ?qa ?qb ?qc ?qd ?qe ?qf ?qg ?qh ?_);(case qa=>walk_at "hp");(case qb=>walk_at "hp");(case qc=>k_is);(case qd=>k_is);(case qe=>k_is);(case qf=>k_is);(case qg=>exact rfl);(case qh=>exact rfl))|((with_reducible refine eP ?qa ?_);(case qa=>(intro env;rfl)))|((with_reducible refine' mG ?qa ?_);(case qa=>walk_at "hp"))|((with_reducible refine gM (by walk_at "ok") ?qa ?_);(case qa=>(intro env;rfl)))|((with_reducible refine fq ?qa ?qb ?qc ?qd ?_);(case qa=>(intro env;rfl));(case qb=>(intro env;rfl));(case qc=>exact rfl);(case qd=>(intro env;rfl)))|((with_reducible refine A4 (by first|assumption|exact Fx.gx (by assumption)) ?qa ?qb ?_);(case qa=>exact rfl);(case qb=>exact ⟨fun ux=>rfl,fun ux=>rfl⟩))|((with_reducible refine Bl ?qa ?_);(case qa=>walk_at "pos"))|fail))
    ·rename_i hv
     subst hv
     refine rx (by walk_at "hp") (by lia) hg ?_
     (repeat' (first|(with_reducible first|refine a' ?_|refine aW ?_|refine av ?_|refine cG ?_|refine bf ?_|refine aN ?_|fail)|((with_reducible refine aT (by walk_at "ok") ?qa ?qb ?_);(case qa=>exact rfl);(case qb=>exact rfl))|walk_at "n"|((with_reducible refine' c9 (by walk_at "ok") ?qa ?qc ?qd ?qe ?qb ?qf ?_);(case qa=>exact rfl);(case qb=>decide);(case qc=>k_is);(case qd=>decide);(case qe=>boot_by_name);(case qf=>exact ⟨fun ux=>rfl,fun ux=>rfl⟩))|walk_at "k"|((with_reducible refine v_mul ?qa ?_);(case qa=>walk_at "mul"))|((with_reducible refine C6 (by assumption) ?_))|fail))
     refine ⟨k - (e+1),by lia,e+1,min u (kg u (2 ^ e)),dS sp' (kg u (2 ^ e)),rfl,s1 hg,aI kG hl,by walk_at "lk",by show _=some (AV.int (min u (if u / 2 ^ e % 2=0 then u+2 ^ e else u - 2 ^ e)));walk_at "lk",by walk_at "lk",?_,by show _=some (AO.dict (dS sp' (if u / 2 ^ e % 2=0 then u+2 ^ e else u - 2 ^ e)));walk_at "hp",by walk_at "hp",fun a o n1 n2 q=>by walk_at "hp"⟩
     rw [gm,eW]
    ·obtain ⟨t',c,r⟩:=s2 (by rw [hg];intro q;injection q with q;contradiction)
     refine f9 (by walk_at "hp") (by lia) ?_
     (repeat' (first|(with_reducible first|refine a' ?_|refine ch ?_|refine av ?_|refine cF ?_|fail)|walk_at "n"|fail))
     exact fin t' c r
  ·obtain rfl:e=k:=ce hek (tH fun q=>by have:=gp q;contradiction)
   obtain ⟨t',c,r⟩:=T.top
   refine f9 (by walk_at "hp") (by lia) ?_
   (repeat' (first|(with_reducible first|refine a' ?_|refine ch ?_|refine av ?_|refine cF ?_|fail)|walk_at "n"|fail))
   exact fin t' c r
theorem rA (ok:Ok af (hK w.params) cx sc (n+1)) (hh:cx.A.handled=none) {args:List Expr} {px:Pos} (hx:sc.names.lookup (aa "_law_fitting")=some .globalImplicit) (hp:eB (aa "_law_fitting") px args pos)
  (h:fN af w cx pos args σ (BH Q) E):bZ af w cx (.Call (.Name (aa "_law_fitting") px) args [] pos) σ Q E:=by
 refine dz ok hx (by k_is) (by k_is) (by decide) hp (h.imp (fun l σ₁ qA=>?_) fun ux ux e=>e)
 obtain ⟨v,hl,hv,hq⟩:=qA
 subst hl
 refine l8 (ps:=[aa "_law_want_here"]) ok hh (ed (by k_is) (by k_is) (by k_is) (re rfl fun ux=>rfl) (by decide) rfl rfl rfl (by decide)) rfl fun cx g=>?_
 (repeat' (first|(with_reducible first|refine a' ?_|refine av ?_|refine bf ?_|fail)|((with_reducible refine aT (by walk_at "ok") ?qa ?qb ?_);(case qa=>exact rfl);(case qb=>exact rfl))|fail))
 refine li g (fun k σ=>∃ i:Nat,k=80 - i∧i≤80∧σ.loc (aa "_law_size")=some (.int (2 ^ i))∧σ.loc (aa "_law_want_here")=some (.int v)∧(∀ j,j<i→(2:Int) ^ j<v)∧σ₁.Sub σ) 80 ⟨0,rfl,by lia,by walk_at "lk",by walk_at "lk",fun j hj=>absurd hj (w4 _),fun ux ux e=>e⟩ ?_
 rintro k σ ⟨i,hk,hi,j1,j2,j3,j4⟩
 (repeat' (first|(with_reducible first|refine a' ?_|refine ch ?_|refine fn ?_|refine aW ?_|refine av ?_|refine cF ?_|refine cG ?_|refine bf ?_|refine eU ?_|fail)|((with_reducible refine aT (by walk_at "ok") ?qa ?qb ?_);(case qa=>exact rfl);(case qb=>exact rfl))|walk_at "n"|((with_reducible refine bI ?qa ?_);(case qa=>with_unfolding_all rfl))|with_reducible refine cz (fun _=>?_) (fun _=>?_)|((with_reducible refine v_mul ?qa ?_);(case qa=>walk_at "mul"))|fail))
 ·rename_i hlt
  have hi':i<80:=dj fun q=>by have:=iF q;lia
  refine ⟨80 - (i+1),by lia,i+1,rfl,by lia,?_,by walk_at "lk",fun j hj=>?_,j4⟩
  ·rw [gm,eW]
  ·rcases fY.mp hj with q|q
   ·exact j3 j q
   ·subst q;exact hlt
 ·rename_i hge
  refine ⟨j4,?_⟩
  have e1:=(jN v i).mpr (by lia)
  have e2:¬ fe v<i:=fun q=>by have:=j3 _ q;have:=DE v;lia
  rw [show fe v=i by lia] at hq
  exact hq
theorem Ba (g:Fx af (hK w.params) cx sc (n+1)) {args:List Expr} {px:Pos} (hx:sc.names.lookup (aa "_law_fitting")=some .globalImplicit) (hp:eB (aa "_law_fitting") px args pos)
  (h:fN af w cx pos args σ (BH Q) E):bZ af w cx (.Call (.Name (aa "_law_fitting") px) args [] pos) σ Q E:=rA g.ok g.hh hx hp h
theorem C9 (g:Fx af (hK w.params) cx sc (n+2)) {args:List Expr} {px:Pos} (hx:sc.names.lookup (aa "_law_yard_size")=some .globalImplicit) (hp:eB (aa "_law_yard_size") px args pos)
  (h:fN af w cx pos args σ (Dt Q) E):bZ af w cx (.Call (.Name (aa "_law_yard_size") px) args [] pos) σ Q E:=by
 refine dz g.ok hx (by k_is) (by k_is) (by decide) hp (h.imp (fun l σ₁ qA=>?_) fun ux ux e=>e)
 obtain ⟨x,ns,hl,hx,hn,hq⟩:=qA
 subst hl
 refine eT (ps:=[aa "_law_script"]) g (ed (by k_is) (by k_is) (by k_is) (re rfl fun ux=>rfl) (by decide) rfl rfl rfl (by decide)) rfl fun cx g=>?_
 have hx':(σ₁.enter [aa "_law_script"] [.ref x]).hp x=some (.ro (ns.map AV.int)):=hx
 (repeat' (first|(with_reducible first|refine a' ?_|refine ch ?_|refine fn ?_|refine aW ?_|refine av ?_|refine eF ?_|refine cF ?_|refine cG ?_|refine bf ?_|refine aN ?_|refine eI ?_|refine eU ?_|fail)|((with_reducible refine aT (by walk_at "ok") ?qa ?qb ?_);(case qa=>exact rfl);(case qb=>exact rfl))|walk_at "n"|walk_at "k"|((with_reducible refine bI ?qa ?_);(case qa=>with_unfolding_all rfl))|((with_reducible refine eq ?qa ?_);(case qa=>walk_at "pos"))|with_reducible refine cz (fun _=>?_) (fun _=>?_)|((with_reducible refine v_pow ?qa ?qb ?_);(case qa=>first|decide|lia);(case qb=>first|decide|decide +kernel|lia))|((with_reducible refine rB (by assumption) ?qa ?qb ?_);(case qa=>exact rfl);(case qb=>exact ⟨fun ux=>rfl,fun ux=>rfl⟩))|((with_reducible refine qC (by assumption) ?qa ?qb ?_);(case qa=>exact rfl);(case qb=>exact ⟨fun ux=>rfl,fun ux=>rfl⟩))|((with_reducible refine' rH ?qa ?qb ?qc ?qd ?_);(case qa=>walk_at "hp");(case qb=>with_reducible assumption);(case qc=>lia);(case qd=>lia))|fail))
 ·refine lE (ph (by decide)) (rc (by decide) (by decide)) ?_
  (repeat' (first|with_reducible refine ch ?_|fail))
  exact ⟨fun ux ux e=>e,hq _ (vR (by decide) (by decide))⟩
 ·refine lE (ph (by decide)) (rc (by decide) (by decide)) ?_
  (repeat' (first|with_reducible refine ch ?_|fail))
  exact ⟨fun ux ux e=>e,hq _ (vR (by decide) (by decide))⟩
 ·refine lE y7.1 y7.2 ?_
  (repeat' (first|with_reducible refine ch ?_|fail))
  exact ⟨fun ux ux e=>e,hq _ xx⟩
 ·exact ⟨fun ux ux e=>e,hq 60 (by decide)⟩
theorem tB (ok:Ok af (hK w.params) cx sc (n+2)) (hh:cx.A.handled=none) {args:List Expr} {px:Pos} (hx:sc.names.lookup (aa "_law_want")=some .globalImplicit) (hp:eB (aa "_law_want") px args pos)
  (h:fN af w cx pos args σ (w8 Q) E):bZ af w cx (.Call (.Name (aa "_law_want") px) args [] pos) σ Q E:=by
 refine dz ok hx (by k_is) (by k_is) (by decide) hp (h.imp (fun l σ₁ qA=>?_) fun ux ux e=>e)
 obtain ⟨c,k,hl,hk,hq⟩:=qA
 subst hl
 refine l8 (ps:=[aa "_law_cell",aa "_law_cells"]) ok hh (ed (by k_is) (by k_is) (by k_is) (nB rfl fun ux ux=>rfl) (by decide) rfl rfl rfl (by decide)) rfl fun cx g=>?_
 have h0:=dI k
 have h1:=gI hk
 (repeat' (first|(with_reducible first|refine a' ?_|refine ch ?_|refine fn ?_|refine aW ?_|refine av ?_|refine eF ?_|refine cF ?_|refine cG ?_|refine bf ?_|refine aN ?_|refine k_un ?_|refine dO ?_|refine dc ?_|refine eI ?_|refine ja ?_|refine Ef ?_|refine eU ?_|fail)|((with_reducible refine aT (by walk_at "ok") ?qa ?qb ?_);(case qa=>exact rfl);(case qb=>exact rfl))|walk_at "n"|walk_at "k"|((with_reducible refine bI ?qa ?_);(case qa=>with_unfolding_all rfl))|((with_reducible refine iu ?qa (fun _ _=>?_));(case qa=>exact am rfl))|((with_reducible refine eq ?qa ?_);(case qa=>walk_at "pos"))|((with_reducible refine v_div (by walk_at "ok") ?qa ?_);(case qa=>walk_at "pos"))|with_reducible refine cz (fun _=>?_) (fun _=>?_)|((with_reducible refine v_pow ?qa ?qb ?_);(case qa=>first|decide|lia);(case qb=>first|decide|decide +kernel|lia))|((with_reducible refine qC (by assumption) ?qa ?qb ?_);(case qa=>exact rfl);(case qb=>exact ⟨fun ux=>rfl,fun ux=>rfl⟩))|fail))
 ·exact ⟨fun ux ux e=>e,hq _ lw1⟩
 ·refine lE (ph (by decide)) (rc (by decide) (by decide)) ?_
  (repeat' (first|(with_reducible first|refine ch ?_|refine cG ?_|refine bf ?_|refine eI ?_|refine ja ?_|fail)|walk_at "n"|((with_reducible refine eq ?qa ?_);(case qa=>walk_at "pos"))|((with_reducible refine v_div (by walk_at "ok") ?qa ?_);(case qa=>walk_at "pos"))|fail))
  exact ⟨fun ux ux e=>e,hq _ (lw2 h0 h1)⟩
 ·exact ⟨fun ux ux e=>e,hq _ (lw3 h0 h1)⟩
 ·refine yT (by walk_at "lst") rfl (ph (by decide)) (lt3 rfl) (am rfl) (fun v hv=>?_) (by intro _ _;with_unfolding_all rfl)
  (repeat' (first|with_reducible refine ch ?_|fail))
  exact ⟨AS.Sub.put (fun ux ux e=>e) (by assumption),hq _ (lw4 (a:=2 ^ k) (r:=c / 8) h1 (aE hv))⟩
theorem wV (g:Fx af (hK w.params) cx sc (n+2)) {args:List Expr} {px:Pos} (hx:sc.names.lookup (aa "_law_want")=some .globalImplicit) (hp:eB (aa "_law_want") px args pos)
  (h:fN af w cx pos args σ (w8 Q) E):bZ af w cx (.Call (.Name (aa "_law_want") px) args [] pos) σ Q E:=tB g.ok g.hh hx hp h
theorem u5 (g:Fx af (hK w.params) cx sc (n+5)) {args:List Expr} {px:Pos} (hx:sc.names.lookup (aa "give_all")=some .globalImplicit) (hp:eB (aa "give_all") px args pos)
  (h:fN af w cx pos args σ (BJ (hK w.params) 98 (⟨40,48,40,88⟩:Pos) (aa "give_all"++".<locals>."++"<lambda>") E Q) E):bZ af w cx (.Call (.Name (aa "give_all") px) args [] pos) σ Q E:=by
 refine dz g.ok hx (by k_is) (by k_is) (by decide) hp (h.imp (fun l σ₁ qA=>?_) fun ux ux e=>e)
 obtain ⟨y,u,k,t,C,dx,S,H,sp,hd,vs,hl,hY,hu,hlen,ga,hE,hw,hr,hn,hq⟩:=qA
 subst hl
 obtain rfl:=ft hY.is.cls (by k_is)
 refine yu (ps:=[aa "yard",aa "wants"]) g (ed (by k_is) (by k_is) (by k_is) (nB rfl fun ux ux=>rfl) (by decide) rfl rfl rfl (by decide)) rfl fun cx g hcode=>?_
 obtain ⟨hcd,hql⟩:=hcode _ _ (C4 (by k_is))
 have e1:=hY.is.y
 have e2:=hY.is.dx
 have e3:=hY.sS
 have e4:=hY.sH
 have e6:aH=2 ^ 24:=rfl
 have hk:=gI hY.k60
 have hu':(σ₁.enter [aa "yard",aa "wants"] [.ref y,.ref u]).hp u=some (.list (vs.map AV.int)):=hu
 show cf _ _ _ (_::_::_) _ _ _
 refine yX (fun σ'=>σ'.hp=σ₁.hp∧σ'.loc (aa "yard")=some (.ref y)∧σ'.loc (aa "wants")=some (.ref u)∧∀ v∈vs,1≤v∧v≤2 ^ k) ?_ ?_
 ·rintro σ ⟨hh,l1,l2,hv⟩
  have hu2:σ.hp u=some (.list (vs.map AV.int)):=by rw [hh];exact hu
  have ga1:GA 98 (⟨40,48,40,88⟩:Pos) (cx.env.qual++"<lambda>") σ:=by
   rw [hql]
   exact ga.sub fun a o e=>by rw [hh];exact e
  obtain ⟨ps,hP⟩:=ga.at
  show cf _ _ _ (_::_) _ _ _
  refine pW (GbO (hK w.params) 98 (⟨40,48,40,88⟩:Pos) (aa "give_all"++".<locals>."++"<lambda>") σ₁ y u k t dx S H sp hd vs) ?_ ?_
  ·rintro σ ⟨C,ax,ms,ho,hY,hu,ha,ly,lw,lo,ga,but⟩
   obtain rfl:=ft hY.is.cls (by k_is)
   clear hh l1 l2 hu2 ga1 hP
   show cf _ _ _ (_::_) _ _ _
   (repeat' (first|(with_reducible first|refine a' ?_|refine av ?_|fail)|((with_reducible refine vI (by walk_at "ok") (fun _ _=>?_)))|((with_reducible refine jm (by walk_at "ok") ?qa ?_);(case qa=>exact rfl))|fail))
   rename_i G hG
   have nG:∀ a o,a≠98→a≠S→a≠H→σ₁.hp a=some o→a≠G:=fun a o n1 n2 n3 e=>dP hG (but a o n1 n2 n3 e)
   have nGS:G≠S:=bl (dP hG hY.sS)
   have nGH:G≠H:=bl (dP hG hY.sH)
   have hY0:=hY.sub (gW (o:=.dict []) hG)
   rw [← (show hd++ka vs []=hd from cA _)] at hY0
   refine gG g rfl (fun ux=>rfl) ?_
   (repeat' (first|walk_at "n"|fail))
   refine ⟨ax,ms.map AV.int,GbI (hK w.params) 98 (⟨40,48,40,88⟩:Pos) (aa "give_all"++".<locals>."++"<lambda>") σ₁ y u G ax k dx S H hd vs ms,rfl,⟨_,t,sp,[],by simp,rfl,.nil,hY0.sub (fun ux ux e=>e),aX,by walk_at "hp",by walk_at "hp",by walk_at "lk",by walk_at "lk",by walk_at "lk",ga.sub (gW hG),fun a o n1 n2 n3 e=>fJ hG (but a o n1 n2 n3 e)⟩,fun i σ h=>h.at,?_,?_⟩
   ·rintro i a σ cx g ha ⟨C,t1,sp1,d,hm,hdl,due,hY1,hg,hu,hax,ly,lw,lg,ga,but⟩
    obtain rfl:=ft hY1.is.cls (by k_is)
    obtain ⟨p,hp,rfl⟩:∃ p,ms[i]?=some p∧a = .int p:=by
     rw [aR] at ha
     obtain ⟨p,hp,rfl⟩:=bT.mp ha
     exact ⟨p,hp,rfl⟩
    obtain ⟨hm0,hm1,_⟩:=oN ho hm hp
    have hvm:=hv _ (mo hm0 hm1)
    have hil:i<vs.length:=by have:=ho.p.length_eq;rw [dC] at this;have:=(aF.mp hp).1;lia
    have hhl:(hd++ka vs d).length<2 ^ 15:=by
     unfold ka
     rw [au,aj]
     lia
    have e1:=hY1.is.y
    have e2:=hY1.is.dx
    have e3:=hY1.sS
    have e4:=hY1.sH
    show cf _ _ _ (_::_) _ _ _
    refine av (CT g ?_)
    (repeat' (first|(with_reducible first|refine av ?_|refine dc ?_|fail)|walk_at "n"|walk_at "k"|((with_reducible refine eP ?qa ?_);(case qa=>(intro env;rfl)))|((with_reducible refine' jk ?qa ?_);(case qa=>exact je.mk (by k_is) (by walk_at "hp") (by walk_at "hp")))|((with_reducible refine Bd (by assumption) ?qa ?_);(case qa=>exact ⟨⟨_,fun ux=>rfl⟩,fun ux=>rfl⟩))|fail))
    refine jg (by walk_at "lst") hm0 hm1 (by lia) ?_ (by intro _ _;with_unfolding_all rfl)
    (repeat' (first|with_reducible refine aN ?_|fail))
    refine wY (hY1.sub (by walk_at "sub")) hhl (fun q=>absurd q (by lia)) (fun q=>absurd q (by lia)) (fun _ _ _ q Cr hCr=>?_) (fun q1 q2 hjk x i' t' sp' σ' hm' hji hb l' b' hY'=>?_)
    ·obtain rfl:=ft hCr (by k_is)
     refine ⟨nofun,hd_in g rfl (by k_is) (by kts_exm) (by decide) fun cx' g'=>?_⟩
     have st:oh k hd vs:=⟨ms,d,t1,sp1,p,ho,by rw [hdl];exact hm,by rw [hdl];exact hp,hY1.rep,hY1.cn,q⟩
     have kd:=y3 ho hm
     have hE':∀ σ,yE E σ₁.loc .none σ:=fun σ=>⟨⟨σ₁.loc,fun ux=>none⟩,⟨fun ux ux e=>e,fun ux ux e=>nomatch e⟩,hE st _⟩
     show cf _ _ _ (_::_::_) _ _ _
     refine pW (fun σ'=>∃ z,GcI (hK w.params) 98 (⟨40,48,40,88⟩:Pos) (aa "give_all"++".<locals>."++"<lambda>") σ₁ y G z k dx S H hd vs d d.length σ') ?_ ?_
     ·rintro σ' ⟨z,C,t2,sp2,hY2,hg2,hz2,ly2,lg2,ga2,but2⟩
      obtain rfl:=ft hY2.is.cls (by k_is)
      rw [List.drop_length,show hd++ka vs []=hd from cA _] at hY2
      obtain rfl:=xp hY2.rep hY.rep hY2.cn hY.cn (pP _)
      show cf _ _ _ (_::_) _ _ _
      refine av ?_
      refine rT g' rfl (by k_is) (by k_exc) (by decide) (fun ux=>rfl) (.inr ⟨σ₁,σ₁,e9,hE st _⟩) ?_
      (repeat' (first|(with_reducible first|refine dR ?_|refine aN ?_|fail)|walk_at "k"|((with_reducible refine And.intro ?qa ?_);(case qa=>(show bM _≤aH;exact am rfl)))|fail))
      exact ⟨⟨σ₁.loc,σ'.hp⟩,e9,hn hv st ⟨σ₁.loc,σ'.hp⟩ sp2 rfl (hY2.sub fun ux ux e=>e) (fun a o n1 n2 n3 e=>but2 a o n1 n2 n3 e) (ga2.sub fun ux ux e=>e) _ (by k_is)⟩
     ·refine BN g' rfl (fun ux=>rfl) ?_
      (repeat' (first|with_reducible refine aN ?_|walk_at "n"|((with_reducible refine' dQ (by walk_at "ok") ?qa ?qc ?qd ?qe ?qb ?qf ?_);(case qa=>exact rfl);(case qb=>decide);(case qc=>k_is);(case qd=>decide);(case qe=>boot_by_name);(case qf=>exact ⟨fun ux=>rfl,fun ux=>rfl⟩))|walk_at "k"|((with_reducible refine' p3 (by assumption) ?qa ?qb (fun _ _=>?_));(case qa=>walk_at "hp");(case qb=>walk_at "num"))|fail))
      rename_i z hz
      have nzG:z≠G:=(dP hz (show σ.hp G=some _ from hg)).symm
      refine ⟨z,(d.map (·.1)).map AV.int,GcI (hK w.params) 98 (⟨40,48,40,88⟩:Pos) (aa "give_all"++".<locals>."++"<lambda>") σ₁ y G z k dx S H hd vs d,rfl,⟨_,t1,sp1,hY1.sub (gW hz),fJ hz hg,aX,by walk_at "lk",by walk_at "lk",ga.sub (gW hz),fun a o n1 n2 n3 e=>fJ hz (but a o n1 n2 n3 e)⟩,fun i σ h=>h.at,?_,?_⟩
      ·rintro i a σ cx g ha ⟨C,t2,sp2,hY2,hg2,hz2,ly2,lg2,ga2,but2⟩
       obtain rfl:=ft hY2.is.cls (by k_is)
       obtain ⟨p,hp,rfl⟩:∃ p,d[i]?=some p∧a = .int p.1:=by
        rw [aR,aR,Option.map_map] at ha
        obtain ⟨p,hp,rfl⟩:=bT.mp ha
        exact ⟨p,hp,rfl⟩
       rw [zm hp] at hY2
       have e1:=hY2.is.y
       have e2:=hY2.is.dx
       have e3:=hY2.sS
       have e4:=hY2.sH
       have nGS:G≠S:=nGS
       (repeat' (first|(with_reducible first|refine av ?_|refine dc ?_|fail)|walk_at "n"|walk_at "k"|((with_reducible refine gM (by walk_at "ok") ?qa ?_);(case qa=>(intro env;rfl)))|((with_reducible refine' jk ?qa ?_);(case qa=>exact je.mk (by k_is) (by walk_at "hp") (by walk_at "hp")))|((with_reducible refine rz (by assumption) (.inr (by assumption)) ?qa ?_);(case qa=>exact ⟨⟨_,fun ux=>rfl⟩,fun ux=>rfl⟩))|fail))
       refine g9 (by walk_at "hp") ((cH kd).mpr (aE hp)) ?_ (by intro _ _;with_unfolding_all rfl)
       (repeat' (first|with_reducible refine aN ?_|fail))
       refine oP (hY2.sub (by walk_at "sub")) (fun q=>absurd ((cH hY2.rep.khd).mpr (ay.mpr (.inr (.head _)))) (by rw [q];nofun)) (fun j t3 sp3 σ3 hget hik l3 b3 hY3=>?_)
       rw [th hY2.rep.khd] at hY3
       have fz:=b3.at e3 e4 hz2 (by intro d q;cases q)
       have fG:σ3.hp G=some (.dict d):=u7 b3 nGS nGH hg2
       (repeat' (first|(with_reducible first|refine a' ?_|refine aW ?_|fail)|fail))
       exact ⟨_,t3,sp3,hY3.sub (fun ux ux e=>e),fG,fz,by rw [l3];walk_at "lk",by rw [l3];walk_at "lk",(ga2.but b3 e3 e4).sub (fun ux ux e=>e),fun a o n1 n2 n3 e=>b3 a o n2 n3 (but2 a o n1 n2 n3 e)⟩
      ·intro σ h
       exact eE ⟨z,by rw [aj,aj] at h;exact h⟩
    ·have fG:σ'.hp G=some (.dict d):=u7 b' nGS nGH hg
     have fu:=b'.at e3 e4 hu (by intro d q;cases q)
     have fax:=b'.at e3 e4 hax (by intro d q;cases q)
     have ga':=ga.but b' e3 e4
     (repeat' (first|walk_at "n"|fail))
     refine f9 (by walk_at "hp") (by lia) ?_
     rw [yh ho hm hp]
     (repeat' (first|(with_reducible first|refine a' ?_|refine aW ?_|fail)|fail))
     have nuG:u≠G:=fun q=>by subst q;rw [fu] at fG;cases fG
     have naG:ax≠G:=fun q=>by subst q;rw [fax] at fG;cases fG
     have hY2:=hY'.putG (d1:=d++[(p,x)]) fG nGS nGH
     rw [ai,← mM (p:=(p,x))] at hY2
     exact ⟨_,t',sp',d++[(p,x)],zb hm hp,by rw [au,hdl];rfl,due.snoc (p:=(p,x)) hY1.rep hY1.cn ⟨hm',hji,hb⟩ hvm.2,hY2.sub (fun ux ux e=>e),by walk_at "hp",by walk_at "hp",by walk_at "hp",by walk_at "lk",by walk_at "lk",by walk_at "lk",(ga'.putG fG).sub (fun ux ux e=>e),fun a o n1 n2 n3 e=>bH (nG a o n1 n2 n3 e) (b' a o n2 n3 (but a o n1 n2 n3 e))⟩
   ·rintro σ ⟨C,t,sp,d,hm,hdl,due,hY,hg,hu,hax,ly,lw,lg,ga,but⟩
    obtain rfl:=ft hY.is.cls (by k_is)
    rw [aj] at hm hdl
    rw [fm] at hm
    have hml:ms.length=vs.length:=by have:=ho.p.length_eq;rw [dC] at this;exact this
    subst hm
    (repeat' (first|(with_reducible first|refine a' ?_|refine av ?_|refine cF ?_|fail)|fail))
    refine lT g.ok g.hh ⟨rfl,by decide,by decide,by decide,by decide,rfl⟩ ?_ (fun ux=>rfl)
    (repeat' (first|with_reducible refine aN ?_|walk_at "n"|((with_reducible refine' c9 (by walk_at "ok") ?qa ?qc ?qd ?qe ?qb ?qf ?_);(case qa=>exact rfl);(case qb=>decide);(case qc=>k_is);(case qd=>decide);(case qe=>boot_by_name);(case qf=>exact ⟨fun ux=>rfl,fun ux=>rfl⟩))|((with_reducible refine' dQ (by walk_at "ok") ?qa ?qc ?qd ?qe ?qb ?qf ?_);(case qa=>exact rfl);(case qb=>decide);(case qc=>k_is);(case qd=>decide);(case qe=>boot_by_name);(case qf=>exact ⟨fun ux=>rfl,fun ux=>rfl⟩))|walk_at "k"|((with_reducible refine' iJ ?qa ?qb ?_);(case qa=>walk_at "lst");(case qb=>walk_at "num"))|((with_reducible refine gP (fun _ _=>?_)))|fail))
    rename_i ax2 hax2
    rw [aj]
    refine ⟨_,fun ux=>true,plcF d,jL aX (by lia) (by lia),by rw [aj,cC];lia,?_,fun D hD=>?_⟩
    ·intro i a D acc cx' ha hD ok hh
     obtain ⟨hi,rfl⟩:=jF ha
     refine ⟨i7 ⟨rfl,AS.Kept.refl _⟩,fun _=>?_⟩
     (repeat' (first|with_reducible refine dc ?_|walk_at "n"|fail))
     refine g9 (by walk_at "hp") (y4 ho (by lia) (by lia)) ?_ (by intro _ _;with_unfolding_all rfl)
     exact ⟨rfl,AS.Kept.refl _⟩
    rw [Ay,show ((vs.length:Int)).toNat=vs.length by lia]
    (repeat' (first|with_reducible refine ch ?_|fail))
    have sb:σ.Sub ((σ.put ax2 (.range 0 vs.length 1)).put D (.list ((upTo vs.length).map fun i=>AV.int (iY d i)))):=((AS.Sub.refl σ).put hax2).put hD
    exact gt (hq hv d ho due _ D t sp rfl (hY.sub sb) aX (fun a o n1 n2 n3 e=>sb _ _ (but a o n1 n2 n3 e)) (ga.sub sb) (fun a o n1 n2 n3 e=>dP hD (fJ hax2 (but a o n1 n2 n3 e))))
  ·(repeat' (first|((with_reducible refine aT (by walk_at "ok") ?qa ?qb ?_);(case qa=>exact rfl);(case qb=>exact rfl))|fail))
   refine BV g.ok rfl (by k_is) (by boot_by_name) (fun ux=>rfl) ?_
   (repeat' (first|with_reducible refine aN ?_|walk_at "n"|((with_reducible refine' c9 (by walk_at "ok") ?qa ?qc ?qd ?qe ?qb ?qf ?_);(case qa=>exact rfl);(case qb=>decide);(case qc=>k_is);(case qd=>decide);(case qe=>boot_by_name);(case qf=>exact ⟨fun ux=>rfl,fun ux=>rfl⟩))|((with_reducible refine' dQ (by walk_at "ok") ?qa ?qc ?qd ?qe ?qb ?qf ?_);(case qa=>exact rfl);(case qb=>decide);(case qc=>k_is);(case qd=>decide);(case qe=>boot_by_name);(case qf=>exact ⟨fun ux=>rfl,fun ux=>rfl⟩))|walk_at "k"|((with_reducible refine' iJ ?qa ?qb ?_);(case qa=>walk_at "lst");(case qb=>walk_at "num"))|((with_reducible refine gP (fun _ _=>?_)))|fail))
   rename_i ax0 hax0
   rw [aj]
   refine p0 g.hh aX (by lia) fun y1 hy1=>?_
   refine yL (x:=aa "place") g.ok hcd (codeHd_of_K g.ok.glo.KX (by kernel_rfl)) (ga1.sub (((AS.Sub.refl σ).put hax0).put hy1)) ⟨rfl,by decide,by decide,by decide,by decide,rfl⟩ rfl fun F σ2 l2' k2 lam ga2=>?_
   have s2:∀ a o,a≠98→σ₁.hp a=some o→σ2.hp a=some o:=fun a o n e=>k2 a o n (fJ hy1 (fJ hax0 (by rw [hh];exact e)))
   have ny:y1≠98:=dP hy1 (fJ hax0 (by rw [hh];exact hP)) |>.symm
   refine xt (f:=xh vs) (ns:=upTo vs.length) (.inl (k2 y1 _ ny aX)) (by rw [dC];lia) iz (fun σ3 i hi s3 l3=>?_) fun ax ms σ3 hax hpm eg s3 l3 ha3=>?_
   ·obtain ⟨c',oc,vs',t',pm,ctv,hF,hc',hd',hv'⟩:=lam.sub s3
    refine ET (Ok.in2 g.ok) hF hc' hd' hv' ⟨rfl,by decide,by decide,by decide,by decide,rfl⟩ rfl rfl (fun v=>rfl) fun cx' ok fe hh'=>?_
    have g':Fx af (hK w.params) cx' _ _:=⟨ok,fe,hh'.trans g.hh⟩
    obtain ⟨hi0,hi1⟩:=pi.mp hi
    have hu3:σ3.hp u=some (.list (vs.map AV.int)):=s3 _ _ (s2 _ _ (be hu hP (by intro q;cases q)) hu)
    have lw3:σ3.loc (aa "wants")=some (.ref u):=by rw [l3,l2'];exact l2
    have hvm:=hv _ (mo hi0 hi1)
    (repeat' (first|(with_reducible first|refine cG ?_|refine bf ?_|refine dc ?_|fail)|walk_at "n"|walk_at "k"|((with_reducible refine qz (by assumption) ?qa ?qb ?_);(case qa=>exact rfl);(case qb=>exact ⟨fun ux=>rfl,fun ux=>rfl⟩))|fail))
    refine jg (by walk_at "lst") hi0 hi1 (by lia) ?_ (by intro _ _;with_unfolding_all rfl)
    (repeat' (first|with_reducible refine aN ?_|fail))
    refine qE (fun q=>absurd q (by lia)) fun _ _ e he=>?_
    obtain rfl:=Ax he
    (repeat' (first|with_reducible refine ja ?_|fail))
    exact ⟨rfl,AS.Kept.refl _⟩
   ·(repeat' (first|fail))
    have sa:∀ a o,a≠98→σ₁.hp a=some o→σ3.hp a=some o:=fun a o n e=>s3 _ _ (s2 a o n e)
    refine eE ⟨_,ax,ms,⟨hpm,eg⟩,hY.butP hP sa,sa _ _ (be hu hP (by intro q;cases q)) hu,ha3,?_,?_,by walk_at "lk",?_,fun a o n1 n2 n3 e=>sa a o n1 e⟩
    ·exact uo (by decide) (by rw [l3,l2'];exact l1)
    ·exact uo (by decide) (by rw [l3,l2'];exact l2)
    ·rw [hql] at ga2
     exact (ga2.sub s3).sub fun ux ux e=>e
 ·refine gG g rfl (fun ux=>rfl) ?_
  (repeat' (first|walk_at "n"|fail))
  refine ⟨u,vs.map AV.int,fun i σ'=>σ'.hp=σ₁.hp∧σ'.loc (aa "yard")=some (.ref y)∧σ'.loc (aa "wants")=some (.ref u)∧∀ v∈vs.take i,1≤v,rfl,⟨rfl,by walk_at "lk",by walk_at "lk",by simp⟩,fun i σ h=>by rw [h.1];exact hu,?_,?_⟩
  ·rintro i a σ cx g ha ⟨hh,l1,l2,hv⟩
   obtain ⟨v,hi,rfl⟩:=jn ha
   (repeat' (first|(with_reducible first|refine a' ?_|refine fn ?_|refine aW ?_|refine av ?_|refine eF ?_|refine bf ?_|refine dR ?_|refine aN ?_|refine eU ?_|fail)|walk_at "n"|walk_at "k"|((with_reducible refine bI ?qa ?_);(case qa=>with_unfolding_all rfl))|with_reducible refine cz (fun _=>?_) (fun _=>?_)|((with_reducible refine And.intro ?qa ?_);(case qa=>(show bM _≤aH;exact am rfl)))|((with_reducible refine' gi (by assumption) ?qa ?qb ?qc ?qd ?qe ?_);(case qa=>exact rfl);(case qb=>k_is);(case qc=>k_exc);(case qd=>decide);(case qe=>(intro env;rfl)))|fail))
   ·rename_i q
    exact ⟨σ₁,⟨fun ux ux e=>e,fun a o e=>by show σ.hp a=some o;rw [hh];exact e⟩,hw ⟨v,aE hi,q⟩ _ (by k_is)⟩
   ·rename_i q
    exact ⟨hh,by walk_at "lk",by walk_at "lk",tF hi hv (by lia)⟩
  ·rintro σ ⟨hh,l1,l2,hv⟩
   rw [aj,fm] at hv
   (repeat' (first|with_reducible refine fw ?_|fail))
   refine gG g rfl (fun ux=>rfl) ?_
   (repeat' (first|walk_at "n"|fail))
   refine ⟨u,vs.map AV.int,fun i σ'=>σ'.hp=σ₁.hp∧σ'.loc (aa "yard")=some (.ref y)∧σ'.loc (aa "wants")=some (.ref u)∧∀ v∈vs.take i,v≤2 ^ k,rfl,⟨hh,l1,l2,by simp⟩,fun i σ h=>by rw [h.1];exact hu,?_,?_⟩
   ·rintro i a σ cx g ha ⟨hh,l1,l2,hv2⟩
    obtain ⟨v,hi,rfl⟩:=jn ha
    have f1:=(congrFun hh y).trans e1
    have f2:=(congrFun hh dx).trans e2
    (repeat' (first|(with_reducible first|refine a' ?_|refine fn ?_|refine aW ?_|refine av ?_|refine eF ?_|refine dR ?_|refine aN ?_|refine jT ?_|fail)|walk_at "n"|walk_at "k"|((with_reducible refine bI ?qa ?_);(case qa=>with_unfolding_all rfl))|with_reducible refine cz (fun _=>?_) (fun _=>?_)|((with_reducible refine And.intro ?qa ?_);(case qa=>(show bM _≤aH;exact am rfl)))|((with_reducible refine' gi (by assumption) ?qa ?qb ?qc ?qd ?qe ?_);(case qa=>exact rfl);(case qb=>k_is);(case qc=>k_exc);(case qd=>decide);(case qe=>(intro env;rfl)))|((with_reducible refine' cS (by walk_at "ok") ?qa ?_);(case qa=>(intro env;rfl)))|((with_reducible refine' cT ?qa ?qb ?qc ?qd ?qe ?qf ?qg ?qh ?_);(case qa=>walk_at "hp");(case qb=>walk_at "hp");(case qc=>k_is);(case qd=>k_is);(case qe=>k_is);(case qf=>k_is);(case qg=>exact rfl);(case qh=>exact rfl))|fail))
    ·rename_i q
     exact ⟨σ₁,⟨fun ux ux e=>e,fun a o e=>by show σ.hp a=some o;rw [hh];exact e⟩,hr hv ⟨v,aE hi,q⟩ _ (by k_is)⟩
    ·rename_i q
     exact ⟨hh,by walk_at "lk",by walk_at "lk",tF hi hv2 (by lia)⟩
   ·rintro σ ⟨hh,l1,l2,hv2⟩
    rw [aj,fm] at hv2
    exact eE ⟨hh,l1,l2,fun v hm=>⟨hv v hm,hv2 v hm⟩⟩
inductive DO (σ₁:AS) (y:Addr) (x:Int) (i j:Nat) (k:Nat) (t:BT k) (m:Nat) (σ:AS):Prop
 |mk (e:Nat) (z:Addr) (hm:m=j - e) (h1:i≤e) (h2:e≤j) (hp:∀ f,i≤f→f<e→(x+2 ^ f,(2:Int) ^ f)∈cI false 0 t) (l1:σ.loc (aa "self")=some (.ref y)) (l2:σ.loc (aa "at")=some (.int x)) (l3:σ.loc (aa "wanted")=some (.int (2 ^ j))) (l4:σ.loc (aa "size")=some (.int (2 ^ e)))
  (l5:σ.loc (aa "taken")=some (.ref z)) (hz:σ.hp z=some (.list ((g7 x i e).map AV.int))) (nz:σ₁.hp z=none) (s:σ₁.Sub σ):DO σ₁ y x i j k t m σ
inductive DN (σ₁:AS) (y S z:Addr) (sp:List (Int×Int)) (l:List Int) (m:Nat) (σ:AS):Prop
 |mk (l1:σ.loc (aa "self")=some (.ref y)) (hz:σ.hp z=some (.list (l.map AV.int))) (hS:σ.hp S=some (.dict (iW sp (l.take m)))) (s:(σ₁.put S (.dict (iW sp (l.take m)))).Sub σ):DN σ₁ y S z sp l m σ
theorem EX (g:Fx af (hK w.params) cx sc (n+1)) {o:Expr} {apos:Pos} {args:List Expr} (he:lP o (aa "grow") apos args pos) (h:bZ af w cx o σ (oD (hK w.params) fun y σ₁=>fN af w cx pos args σ₁ (BI (hK w.params) E Q y) E) E):bZ af w cx (.Call (.Attribute o (aa "grow") apos) args [] pos) σ Q E:=by
 refine il g.ok (by k_is) (by k_is) (by k_is) (by k_is) (by k_is) (fun ux ux ux=>rfl) he (iG h fun y l σ₁ qA=>?_)
 obtain ⟨x,i,j,hl,hij,k,t,C,dx,S,H,sp,hd,hY,hjk,h1,h2⟩:=qA
 subst hl
 obtain rfl:=ft hY.is.cls (by k_is)
 refine (eO (ps:=[aa "self",aa "at",aa "size",aa "wanted"]) g (ed (by k_is) (by k_is) (by k_is) (Cq rfl fun ux ux ux ux=>rfl) (by decide) rfl rfl rfl (by decide)) rfl fun cx g=>?_)
 have e1:=hY.is.y
 have e2:=hY.is.dx
 have e3:=hY.sS
 have e5:=hY.splen
 have e6:aH=2 ^ 24:=rfl
 have e7:=hY.k60
 have e8:=dI j
 (repeat' (first|(with_reducible first|refine a' ?_|refine fn ?_|refine aW ?_|refine av ?_|refine eF ?_|refine cG ?_|refine bf ?_|refine dR ?_|refine aN ?_|refine dO ?_|refine kJ ?_|fail)|((with_reducible refine aT (by walk_at "ok") ?qa ?qb ?_);(case qa=>exact rfl);(case qb=>exact rfl))|walk_at "n"|walk_at "k"|((with_reducible refine bI ?qa ?_);(case qa=>with_unfolding_all rfl))|((with_reducible refine iu ?qa (fun _ _=>?_));(case qa=>exact am rfl))|((with_reducible refine eq ?qa ?_);(case qa=>walk_at "pos"))|with_reducible refine iZ (fun _=>?_) (fun _=>?_)|((with_reducible refine And.intro ?qa ?_);(case qa=>(show bM _≤aH;exact am rfl)))|((with_reducible refine' gi (by assumption) ?qa ?qb ?qc ?qd ?qe ?_);(case qa=>exact rfl);(case qb=>k_is);(case qc=>k_exc);(case qd=>decide);(case qe=>(intro env;rfl)))|fail))
 ·rename_i q
  exact ⟨σ₁,e9,h1 (.inl q) _ (by k_is)⟩
 ·rename_i q z0 hz0
  refine li g (DO σ₁ y x i j k t) (j - i) ?_ ?_
  ·refine ⟨i,z0,rfl,aU _,by lia,fun f a b=>by lia,by walk_at "lk",by walk_at "lk",by walk_at "lk",by walk_at "lk",by walk_at "lk",?_,hz0,by walk_at "sub"⟩
   rw [xi]
   show _=some (AO.list [])
   walk_at "hp"
  ·rintro m σ ⟨e,z,hm,h3,h4,hp,l1,l2,l3,l4,l5,hz,nz,s⟩
   have f1:=s _ _ e1
   have f2:=s _ _ e2
   have f3:=s _ _ e3
   have hno:e<j→du sp (x+2 ^ e)≠some (2 ^ e)→ng (hK w.params) E "NoRoom" σ₁:=fun hlt hg=>h1 (.inr ⟨e,h3,hlt,fun hm=>hg ((cH hY.rep.ksp).mpr (hY.rep.sp.mem_iff.mpr hm))⟩)
   (repeat' (first|(with_reducible first|refine a' ?_|refine fn ?_|refine av ?_|refine eF ?_|refine cG ?_|refine aN ?_|refine eI ?_|refine eU ?_|fail)|walk_at "n"|walk_at "k"|((with_reducible refine bI ?qa ?_);(case qa=>with_unfolding_all rfl))|with_reducible refine cz (fun _=>?_) (fun _=>?_)|((with_reducible refine' cS (by walk_at "ok") ?qa ?_);(case qa=>(intro env;rfl)))|((with_reducible refine' cT ?qa ?qb ?qc ?qd ?qe ?qf ?qg ?qh ?_);(case qa=>walk_at "hp");(case qb=>walk_at "hp");(case qc=>k_is);(case qd=>k_is);(case qe=>k_is);(case qf=>k_is);(case qg=>exact rfl);(case qh=>exact rfl))|((with_reducible refine' ss ?qa ?_);(case qa=>walk_at "hp"))|((with_reducible refine' AZ ?qa ?_);(case qa=>walk_at "hp"))|((with_reducible refine fq ?qa ?qb ?qc ?qd ?_);(case qa=>(intro env;rfl));(case qb=>(intro env;rfl));(case qc=>exact rfl);(case qd=>(intro env;rfl)))|fail))
   ·have hlt:e<j:=dj fun q=>by have:=iF q;lia
    have hno:=hno hlt
    cases hg:du sp (x+2 ^ e) with
    |none =>
     (repeat' (first|(with_reducible first|refine fn ?_|refine av ?_|refine dR ?_|refine aN ?_|refine cU ?_|fail)|walk_at "k"|((with_reducible refine And.intro ?qa ?_);(case qa=>(show bM _≤aH;exact am rfl)))|((with_reducible refine' gi (by assumption) ?qa ?qb ?qc ?qd ?qe ?_);(case qa=>exact rfl);(case qb=>k_is);(case qc=>k_exc);(case qd=>decide);(case qe=>(intro env;rfl)))|((with_reducible refine' tj (by walk_at "ok") ?_))|fail))
     exact ⟨σ₁,⟨fun ux ux e=>e,s⟩,hno (by rw [hg];intro q;cases q) _ (by k_is)⟩
    |some v =>
     have hl:=@oZ x i e
     (repeat' (first|(with_reducible first|refine a' ?_|refine fn ?_|refine aW ?_|refine av ?_|refine cG ?_|refine bf ?_|refine dR ?_|refine aN ?_|refine eI ?_|refine kJ ?_|fail)|((with_reducible refine aT (by walk_at "ok") ?qa ?qb ?_);(case qa=>exact rfl);(case qb=>exact rfl))|walk_at "n"|walk_at "k"|with_reducible refine iZ (fun _=>?_) (fun _=>?_)|((with_reducible refine v_mul ?qa ?_);(case qa=>walk_at "mul"))|((with_reducible refine And.intro ?qa ?_);(case qa=>(show bM _≤aH;exact am rfl)))|((with_reducible refine' gi (by assumption) ?qa ?qb ?qc ?qd ?qe ?_);(case qa=>exact rfl);(case qb=>k_is);(case qc=>k_exc);(case qd=>decide);(case qe=>(intro env;rfl)))|((with_reducible refine' su ?qa ?_);(case qa=>walk_at "hp"))|((with_reducible refine' yq ?qa ?qb ?_);(case qa=>walk_at "hp");(case qb=>walk_at "num"))|((with_reducible refine gM (by walk_at "ok") ?qa ?_);(case qa=>(intro env;rfl)))|((with_reducible refine fq ?qa ?qb ?qc ?qd ?_);(case qa=>(intro env;rfl));(case qb=>(intro env;rfl));(case qc=>exact rfl);(case qd=>(intro env;rfl)))|fail))
     ·rename_i hv
      exact ⟨σ₁,⟨fun ux ux e=>e,s⟩,hno (by rw [hg];intro q;injection q with q;exact hv q) _ (by k_is)⟩
     ·rename_i hv
      subst hv
      refine ⟨j - (e+1),by lia,e+1,z,rfl,by lia,by lia,fun f a b=>?_,by walk_at "lk",by walk_at "lk",by walk_at "lk",?_,by walk_at "lk",?_,nz,fun a o q=>?_⟩
      ·rcases fY.mp b with b|rfl
       ·exact hp f a b
       ·exact hY.rep.sp.mem_iff.mp ((cH hY.rep.ksp).mp hg)
      ·rw [gm,eW]
      ·rw [xj h3,bu]
       show _=some (AO.list (_++[AV.int (x+2 ^ e)]))
       walk_at "hp"
      ·have ne:a≠z:=fun w=>by subst w;rw [nz] at q;cases q
       have:=s _ _ q
       exact bH ne this
   ·obtain rfl:e=j:=ce h4 (tH fun q=>by have:=gp q;contradiction)
    have hl:=@oZ x i e
    have hx:x % 2 ^ e=0:=by lia
    refine gG g rfl (fun ux=>rfl) ?_
    (repeat' (first|walk_at "n"|fail))
    refine ⟨z,_,DN σ₁ y S z sp (g7 x i e),rfl,⟨l1,hz,f3,?_⟩,fun i σ h=>h.2,?_,?_⟩
    ·exact fun a o q=>by
      unfold AS.put at q
      dsimp only at q
      split at q
      ·rename_i w;subst w;cases q;exact f3
      ·exact s a o q
    ·rintro n a σ cx g ha ⟨l1,hz,hS,s⟩
     rw [aR] at ha
     obtain ⟨p,hp',rfl⟩:=bT.mp ha
     obtain ⟨v,hv⟩:=C2 hY.rep hp' hp
     have f1:=s _ _ (bH (be e1 e3 (by intro q;cases q)) e1)
     have f2:=s _ _ (bH (be e2 e3 (by intro q;cases q)) e2)
     have hdl:=@AM sp ((g7 x i e).take n)
     (repeat' (first|(with_reducible first|refine av ?_|refine aN ?_|fail)|walk_at "n"|walk_at "k"|((with_reducible refine' cS (by walk_at "ok") ?qa ?_);(case qa=>(intro env;rfl)))|((with_reducible refine' cT ?qa ?qb ?qc ?qd ?qe ?qf ?qg ?qh ?_);(case qa=>walk_at "hp");(case qb=>walk_at "hp");(case qc=>k_is);(case qd=>k_is);(case qe=>k_is);(case qf=>k_is);(case qg=>exact rfl);(case qh=>exact rfl))|((with_reducible refine' mG ?qa ?_);(case qa=>walk_at "hp"))|((with_reducible refine gM (by walk_at "ok") ?qa ?_);(case qa=>(intro env;rfl)))|((with_reducible refine fq ?qa ?qb ?qc ?qd ?_);(case qa=>(intro env;rfl));(case qb=>(intro env;rfl));(case qc=>exact rfl);(case qd=>(intro env;rfl)))|fail))
     refine rx (by walk_at "hp") (by lia) hv ?_
     (repeat' (first|(with_reducible first|refine a' ?_|refine aW ?_|fail)|fail))
     have ne:z≠S:=be hz hS (by intro q;cases q)
     have hd:dS (iW sp ((g7 x i e).take n)) p=iW sp ((g7 x i e).take (n+1)):=by rw [take_snoc hp',yk]
     rw [hd]
     exact ⟨by walk_at "lk",by walk_at "hp",by walk_at "hp",se s⟩
    ·rintro σ ⟨l1,hz,hS,s⟩
     rw [cB (by simp)] at s
     (repeat' (first|(with_reducible first|refine a' ?_|refine aW ?_|fail)|fail))
     exact ⟨σ₁.put S (.dict (iW sp (g7 x i e))),⟨fun ux ux e=>e,s⟩,h2 hx hp⟩
theorem A7 (g:Fx af (hK w.params) cx sc (n+3)) {o:Expr} {apos:Pos} {args:List Expr} (he:lP o (aa "resize") apos args pos) (h:bZ af w cx o σ (oD (hK w.params) fun y σ₁=>fN af w cx pos args σ₁ (BF (hK w.params) E Q y) E) E):bZ af w cx (.Call (.Attribute o (aa "resize") apos) args [] pos) σ Q E:=by
 refine il g.ok (by k_is) (by k_is) (by k_is) (by k_is) (by k_is) (fun ux ux ux=>rfl) he (iG h fun y l σ₁ qA=>?_)
 obtain ⟨x,v,hl,k,t,C,dx,S,H,sp,hd,hY,h0,h1,h2,h3,h4⟩:=qA
 subst hl
 obtain rfl:=ft hY.is.cls (by k_is)
 refine (eO (ps:=[aa "self",aa "at",aa "want"]) g (ed (by k_is) (by k_is) (by k_is) (Cs rfl fun ux ux ux=>rfl) (by decide) rfl rfl rfl (by decide)) rfl fun cx g=>?_)
 have e1:=hY.is.y
 have e2:=hY.is.dx
 have e3:=hY.sS
 have e4:=hY.sH
 have e5:=hY.splen
 have e6:aH=2 ^ 24:=rfl
 have e7:=hY.k60
 have e8:=hY.len
 have hne:=hY.ne
 (repeat' (first|(with_reducible first|refine fn ?_|refine av ?_|refine eF ?_|refine ite_neg ?_|fail)|walk_at "n"|((with_reducible refine bI ?qa ?_);(case qa=>with_unfolding_all rfl))|((with_reducible refine' cS (by walk_at "ok") ?qa ?_);(case qa=>(intro env;rfl)))|((with_reducible refine' cT ?qa ?qb ?qc ?qd ?qe ?qf ?qg ?qh ?_);(case qa=>walk_at "hp");(case qb=>walk_at "hp");(case qc=>k_is);(case qd=>k_is);(case qe=>k_is);(case qf=>k_is);(case qg=>exact rfl);(case qh=>exact rfl))|((with_reducible refine' kH ?qa ?_);(case qa=>walk_at "hp"))|fail))
 cases hx:du hd x with
 |none =>
  (repeat' (first|(with_reducible first|refine av ?_|refine dR ?_|refine aN ?_|refine sF ?_|fail)|walk_at "k"|((with_reducible refine And.intro ?qa ?_);(case qa=>(show bM _≤aH;exact am rfl)))|((with_reducible refine' gi (by assumption) ?qa ?qb ?qc ?qd ?qe ?_);(case qa=>exact rfl);(case qb=>k_is);(case qc=>k_exc);(case qd=>decide);(case qe=>(intro env;rfl)))|fail))
  exact ⟨σ₁,e9,h0 hx _ (by k_is)⟩
 |some s =>
  have hm:=(cH hY.rep.khd).mp hx
  obtain ⟨i,hik,rfl⟩:=vO (hY.rep.hd.mem_iff.mp hm)
  (repeat' (first|(with_reducible first|refine a' ?_|refine aW ?_|refine av ?_|refine aN ?_|refine sE ?_|fail)|((with_reducible refine aT (by walk_at "ok") ?qa ?qb ?_);(case qa=>exact rfl);(case qb=>exact rfl))|walk_at "n"|walk_at "k"|((with_reducible refine' jk ?qa ?_);(case qa=>exact je.mk (by k_is) (by walk_at "hp") (by walk_at "hp")))|((with_reducible refine qB (by assumption) ?qa ?_);(case qa=>exact ⟨⟨_,fun ux=>rfl⟩,fun ux=>rfl⟩))|fail))
  refine ⟨v,rfl,k,_,dx,S,H,⟨hY.is.cls,by walk_at "hp",by walk_at "hp"⟩,hY.k60,fun q C hC=>⟨σ₁,e9,h1 i hx hik q C hC⟩,fun q C hC=>⟨σ₁,e9,h2 i hx hik q C hC⟩,fun q1 q2 j hj hjk=>?_⟩
  (repeat' (first|(with_reducible first|refine a' ?_|refine av ?_|refine dc ?_|fail)|((with_reducible refine aT (by walk_at "ok") ?qa ?qb ?_);(case qa=>exact rfl);(case qb=>exact rfl))|walk_at "n"|((with_reducible refine' cS (by walk_at "ok") ?qa ?_);(case qa=>(intro env;rfl)))|((with_reducible refine' cT ?qa ?qb ?qc ?qd ?qe ?qf ?qg ?qh ?_);(case qa=>walk_at "hp");(case qb=>walk_at "hp");(case qc=>k_is);(case qd=>k_is);(case qe=>k_is);(case qf=>k_is);(case qg=>exact rfl);(case qh=>exact rfl))|fail))
  refine g9 (by walk_at "hp") hx ?_ (by intro _ _;with_unfolding_all rfl)
  (repeat' (first|(with_reducible first|refine a' ?_|refine fn ?_|refine av ?_|refine eF ?_|refine aN ?_|refine rq ?_|fail)|walk_at "n"|walk_at "k"|((with_reducible refine bI ?qa ?_);(case qa=>with_unfolding_all rfl))|with_reducible refine cz (fun _=>?_) (fun _=>?_)|((with_reducible refine gM (by walk_at "ok") ?qa ?_);(case qa=>(intro env;rfl)))|((with_reducible refine' jk ?qa ?_);(case qa=>exact je.mk (by k_is) (by walk_at "hp") (by walk_at "hp")))|((with_reducible refine EX (by assumption) ?qa ?_);(case qa=>exact ⟨⟨_,fun ux=>rfl⟩,fun ux=>rfl⟩))|((with_reducible refine wW (by assumption) ?qa ?_);(case qa=>exact ⟨⟨_,fun ux=>rfl⟩,fun ux=>rfl⟩))|fail))
  ·rename_i hle
   have hji:j≤i:=iE.mp hle
   obtain ⟨t',r1,r2,r3⟩:=hY.rep.shrink hm hji
   refine ⟨x,i,j,rfl,hji,by lia,k,_,dx,S,H,sp,⟨hY.is.cls,by walk_at "hp",by walk_at "hp"⟩,by walk_at "hp",by lia,r3,?_⟩
   (repeat' (first|(with_reducible first|refine a' ?_|refine aW ?_|refine av ?_|fail)|walk_at "n"|((with_reducible refine' cS (by walk_at "ok") ?qa ?_);(case qa=>(intro env;rfl)))|((with_reducible refine' cT ?qa ?qb ?qc ?qd ?qe ?qf ?qg ?qh ?_);(case qa=>walk_at "hp");(case qb=>walk_at "hp");(case qc=>k_is);(case qd=>k_is);(case qe=>k_is);(case qf=>k_is);(case qg=>exact rfl);(case qh=>exact rfl))|((with_reducible refine eP ?qa ?_);(case qa=>(intro env;rfl)))|fail))
   refine f9 (by walk_at "hp") (by lia) ?_
   (repeat' (first|(with_reducible first|refine a' ?_|refine ch ?_|refine av ?_|refine cF ?_|fail)|walk_at "n"|fail))
   refine ⟨_,mJ rfl (by walk_at "hp") (by walk_at "hp") ?_,h4 i j hx hik q1 q2 hj hjk t' _ (.inl hji) r1 (r2 hY.cn)⟩
   intro a o n1 n2 q
   walk_at "hp"
  ·rename_i hle
   have hij:i<j:=dj fun q=>hle (iF q)
   refine ⟨x,i,j,rfl,hij,k,t,_,dx,S,H,sp,hd,hY.sub (by walk_at "sub"),hjk,fun q C hC=>⟨σ₁,e9,h3 i j hx hik q1 q2 hj hjk hij q C hC⟩,fun q3 q4=>?_⟩
   obtain ⟨t',r1,r2⟩:=hY.rep.grow hm (b7 hij) q3 q4
   (repeat' (first|(with_reducible first|refine a' ?_|refine aW ?_|refine av ?_|fail)|walk_at "n"|((with_reducible refine' cS (by walk_at "ok") ?qa ?_);(case qa=>(intro env;rfl)))|((with_reducible refine' cT ?qa ?qb ?qc ?qd ?qe ?qf ?qg ?qh ?_);(case qa=>walk_at "hp");(case qb=>walk_at "hp");(case qc=>k_is);(case qd=>k_is);(case qe=>k_is);(case qf=>k_is);(case qg=>exact rfl);(case qh=>exact rfl))|((with_reducible refine eP ?qa ?_);(case qa=>(intro env;rfl)))|fail))
   refine f9 (by walk_at "hp") (by lia) ?_
   (repeat' (first|(with_reducible first|refine a' ?_|refine ch ?_|refine av ?_|refine cF ?_|fail)|walk_at "n"|fail))
   refine ⟨_,mJ rfl (by walk_at "hp") (by walk_at "hp") ?_,h4 i j hx hik q1 q2 hj hjk t' _ (.inr ⟨hij,q3,q4⟩) r1 (r2 hY.cn)⟩
   intro a o n1 n2 q
   walk_at "hp"
theorem wU (g:Fx af (hK w.params) cx sc (n+1)) {o:Expr} {apos:Pos} {args:List Expr} (he:lP o (aa "owner") apos args pos) (h:bZ af w cx o σ (oD (hK w.params) fun y σ₁=>fN af w cx pos args σ₁ (w7 (hK w.params) Q y) E) E):bZ af w cx (.Call (.Attribute o (aa "owner") apos) args [] pos) σ Q E:=by
 refine il g.ok (by k_is) (by k_is) (by k_is) (by k_is) (by k_is) (fun ux ux ux=>rfl) he (iG h fun y l σ₁ qA=>?_)
 obtain ⟨c,hl,k,t,C,dx,S,H,sp,hd,hY,hq⟩:=qA
 subst hl
 obtain rfl:=ft hY.is.cls (by k_is)
 refine eT (ps:=[aa "self",aa "cell"]) g (ed (by k_is) (by k_is) (by k_is) (nB rfl fun ux ux=>rfl) (by decide) rfl rfl rfl (by decide)) rfl fun cx g=>?_
 have e1:=hY.is.y
 have e2:=hY.is.dx
 have e4:=hY.sH
 have e5:hd.length≤2 ^ 15:=hY.len
 have e6:aH=2 ^ 24:=rfl
 show cf _ _ _ (_::_) _ _ _
 refine av (gG g rfl (fun ux=>rfl) ?_)
 (repeat' (first|with_reducible refine aN ?_|walk_at "n"|((with_reducible refine' dQ (by walk_at "ok") ?qa ?qc ?qd ?qe ?qb ?qf ?_);(case qa=>exact rfl);(case qb=>decide);(case qc=>k_is);(case qd=>decide);(case qe=>boot_by_name);(case qf=>exact ⟨fun ux=>rfl,fun ux=>rfl⟩))|walk_at "k"|((with_reducible refine' cS (by walk_at "ok") ?qa ?_);(case qa=>(intro env;rfl)))|((with_reducible refine' cT ?qa ?qb ?qc ?qd ?qe ?qf ?qg ?qh ?_);(case qa=>walk_at "hp");(case qb=>walk_at "hp");(case qc=>k_is);(case qd=>k_is);(case qe=>k_is);(case qf=>k_is);(case qg=>exact rfl);(case qh=>exact rfl))|((with_reducible refine' gX (by assumption) ?qa ?qb (fun _ _=>?_));(case qa=>walk_at "hp");(case qb=>walk_at "num"))|fail))
 rename_i z hz
 refine ⟨z,_,fun i σ=>σ.loc (aa "self")=some (.ref y)∧σ.loc (aa "cell")=some (.int c)∧σ.hp z=some (.list ((hd.map (·.1)).map AV.int))∧σ₁.Sub σ∧∀ q∈hd.take i,jj c q=false,rfl,⟨by walk_at "lk",by walk_at "lk",by walk_at "hp",fun a o e=>by walk_at "hp",fun q hq=>by rw [iQ] at hq;cases hq⟩,fun i σ h=>h.2.2.1,?_,?_⟩
 ·rintro i a σ cx g ha ⟨j1,j2,j3,j4,j5⟩
  obtain ⟨p,hp,rfl⟩:=int_at ha
  have hpm:=aE hp
  have f1:=j4 _ _ e1
  have f2:=j4 _ _ e2
  have f4:=j4 _ _ e4
  have hgt:=(cH hY.rep.khd).mpr hpm
  (repeat' (first|(with_reducible first|refine a' ?_|refine fn ?_|refine aW ?_|refine av ?_|refine eF ?_|refine cG ?_|refine dc ?_|refine rq ?_|refine bN ?_|refine kc1 ?_|refine kc2 ?_|refine kc3 ?_|fail)|walk_at "n"|((with_reducible refine Cv ?qa ?_);(case qa=>with_unfolding_all rfl))|with_reducible refine cz (fun _=>?_) (fun _=>?_)|((with_reducible refine' cS (by walk_at "ok") ?qa ?_);(case qa=>(intro env;rfl)))|((with_reducible refine' cT ?qa ?qb ?qc ?qd ?qe ?qf ?qg ?qh ?_);(case qa=>walk_at "hp");(case qb=>walk_at "hp");(case qc=>k_is);(case qd=>k_is);(case qe=>k_is);(case qf=>k_is);(case qg=>exact rfl);(case qh=>exact rfl))|fail))
  ·refine g9 (by walk_at "hp") hgt ?_ (by intro _ _;with_unfolding_all rfl)
   (repeat' (first|(with_reducible first|refine a' ?_|refine ch ?_|refine fn ?_|refine aW ?_|refine av ?_|refine cF ?_|refine eI ?_|refine eU ?_|refine kc4 ?_|fail)|walk_at "n"|with_reducible refine cz (fun _=>?_) (fun _=>?_)|fail))
   ·refine ⟨j4,?_⟩
    rw [kl hY.rep.once hpm (by unfold jj;simp only [decide_eq_true_eq];exact ⟨by assumption,by assumption⟩)] at hq
    exact hq
   ·exact ⟨by walk_at "lk",by walk_at "lk",j3,j4,mE hp j5 (by unfold jj;simp only [decide_eq_false_iff_not];lia)⟩
  ·exact ⟨by walk_at "lk",by walk_at "lk",j3,j4,mE hp j5 (by unfold jj;simp only [decide_eq_false_iff_not];lia)⟩
 ·rintro σ ⟨j1,j2,j3,j4,j5⟩
  (repeat' (first|(with_reducible first|refine a' ?_|refine ch ?_|refine av ?_|refine cF ?_|refine jO ?_|fail)|fail))
  refine ⟨j4,?_⟩
  rw [aj,aj,fm] at j5
  rw [lB j5] at hq
  exact hq
theorem EY (g:Fx af (hK w.params) cx sc (n+4)) {args:List Expr} {px:Pos} (hx:sc.names.lookup (aa "_law_done")=some .globalImplicit) (hp:eB (aa "_law_done") px args pos)
  (h:fN af w cx pos args σ (BK (hK w.params) Q) E):bZ af w cx (.Call (.Name (aa "_law_done") px) args [] pos) σ Q E:=by
 refine dz g.ok hx (by k_is) (by k_is) (by decide) hp (h.imp (fun l σ₁ qA=>?_) fun ux ux e=>e)
 obtain ⟨y,z,c,k,C,dx,S,H,M,hl,⟨t,sp,hd,hs,hY,hz,hp,hlen,_⟩,hM,hq⟩:=qA
 subst hl
 obtain rfl:=ft hY.is.cls (by k_is)
 refine (eO (ps:=[aa "_law_yard",aa "_law_held",aa "_law_cell",aa "_law_cells"]) g (ed (by k_is) (by k_is) (by k_is) (Cq rfl fun ux ux ux ux=>rfl) (by decide) rfl rfl rfl (by decide)) rfl fun cx g=>?_)
 have e1:=hY.is.y
 have e2:=hY.is.dx
 have e3:=hY.sS
 have e4:=hY.sH
 have e6:aH=2 ^ 24:=rfl
 have hk:=hY.k60
 have hl':=hp.length_eq
 have same:∀ σ':AS,σ₁.Sub σ'→Fj Q σ₁.loc (.ret (.ref z)) σ':=fun σ' s=>⟨σ₁,⟨fun ux ux e=>e,s⟩,hq _ z rfl ⟨t,sp,hd,hs,hY,hz,hp,cX hlen,AS.But.refl⟩⟩
 (repeat' (first|(with_reducible first|refine a' ?_|refine fn ?_|refine aW ?_|refine av ?_|refine eF ?_|refine cG ?_|refine bf ?_|refine aN ?_|refine eZ ?_|refine eQ ?_|refine mK ?_|refine dO ?_|refine dc ?_|refine eU ?_|refine cU ?_|refine bN ?_|fail)|((with_reducible refine aT (by walk_at "ok") ?qa ?qb ?_);(case qa=>exact rfl);(case qb=>exact rfl))|walk_at "n"|((with_reducible refine' c9 (by walk_at "ok") ?qa ?qc ?qd ?qe ?qb ?qf ?_);(case qa=>exact rfl);(case qb=>decide);(case qc=>k_is);(case qd=>decide);(case qe=>boot_by_name);(case qf=>exact ⟨fun ux=>rfl,fun ux=>rfl⟩))|walk_at "k"|((with_reducible refine bI ?qa ?_);(case qa=>with_unfolding_all rfl))|((with_reducible refine iu ?qa (fun _ _=>?_));(case qa=>exact am rfl))|((with_reducible refine eq ?qa ?_);(case qa=>walk_at "pos"))|((with_reducible refine v_div (by walk_at "ok") ?qa ?_);(case qa=>walk_at "pos"))|with_reducible refine cz (fun _=>?_) (fun _=>?_)|((with_reducible refine' iJ ?qa ?qb ?_);(case qa=>walk_at "lst");(case qb=>walk_at "num"))|((with_reducible refine' i0 (by walk_at "ok") ?qa ?qb ?_);(case qa=>walk_at "lst");(case qb=>walk_at "lst"))|((with_reducible refine jm (by walk_at "ok") ?qa ?_);(case qa=>exact rfl))|((with_reducible refine wV (by assumption) ?qa ?qb ?_);(case qa=>exact rfl);(case qb=>exact ⟨fun ux=>rfl,fun ux=>rfl⟩))|fail))
 iterate 2
  refine ⟨_,k,rfl,hk,fun v hv=>?_⟩
  (repeat' (first|(with_reducible first|refine a' ?_|refine av ?_|refine aN ?_|fail)|((with_reducible refine aT (by walk_at "ok") ?qa ?qb ?_);(case qa=>exact rfl);(case qb=>exact rfl))|walk_at "n"|walk_at "k"|(with_reducible refine AB (by assumption) ?_)|((with_reducible refine' jk ?qa ?_);(case qa=>exact je.mk (by k_is) (by walk_at "hp") (by walk_at "hp")))|((with_reducible refine Bd (by assumption) ?qa ?_);(case qa=>exact ⟨⟨_,fun ux=>rfl⟩,fun ux=>rfl⟩))|fail))
  refine wY (hY.sub (by walk_at "sub")) (by lia) (fun q C hC=>?_) (fun q C hC=>?_) (fun q1 q2 hjk q C hC=>?_) (fun q1 q2 hjk x i t' sp' σ' hm hji hb l' b' hY'=>?_)
  iterate 3
   obtain rfl:=ft hC (by k_is)
   refine ky g.ok rfl (by k_is) (by kts_exm) (by decide) fun cx ok=>?_
   (repeat' (first|(with_reducible first|refine a' ?_|refine ch ?_|refine aW ?_|refine av ?_|refine cF ?_|refine cG ?_|refine aN ?_|refine fU ?_|refine dO ?_|fail)|walk_at "n"|walk_at "k"|((with_reducible refine Ba (by assumption) ?qa ?qb ?_);(case qa=>exact rfl);(case qb=>exact ⟨fun ux=>rfl,fun ux=>rfl⟩))|fail))
   exact same _ (by walk_at "sub")
  have bb:σ₁.But S H σ':=(AS.But.sub (by walk_at "sub")).trans b'
  have fz:=bb.at e3 e4 hz (by intro d q;cases q)
  (repeat' (first|fail))
  refine ⟨v,rfl,by lia,?_⟩
  (repeat' (first|with_reducible refine aN ?_|((with_reducible refine iu ?qa (fun _ _=>?_));(case qa=>exact am rfl))|((with_reducible refine And.intro ?qa ?_);(case qa=>(show bM _≤aH;exact am rfl)))|fail))
  rename_i zl hzl
  refine iq (by walk_at "lst") (by walk_at "lst") (by simp only [aj,bj,fR];lia) fun z' hz'=>?_
  (repeat' (first|with_reducible refine ch ?_|fail))
  refine gt (hq _ z' rfl (YH.loc ⟨t',sp',_,hs++[(x,2 ^ fe v)],hY'.sub (by walk_at "sub"),?_,hp.append_right _,by rw [au];exact cW hlen,fun a o n1 n2 q=>?_⟩))
  ·rw [bu]
   exact aX
  ·have:=bb a o n1 n2 q
   walk_at "hp"
 rename_i hz0 hnil
 have hpos:0<hs.length:=gf.mpr hnil
 rw [aj]
 refine eq (by lia) ?_
 (repeat' (first|fail))
 refine B5 (by walk_at "lst") (jB _ (by lia)) (fE _ (by lia)) (by lia) (fun pc hpc=>?_) (by intro _ _;with_unfolding_all rfl)
 have hpm:=aE hpc
 have hgt:du hd pc.1=some pc.2:=(cH hY.rep.khd).mpr (hp.mem_iff.mp hpm)
 (repeat' (first|(with_reducible first|refine a' ?_|refine av ?_|fail)|fail))
 refine uc g.ok g.hh ⟨rfl,by decide,by decide,by decide,by decide,rfl⟩ rfl (iC g.ok rfl rfl (by decide)) ?_ (fun ux=>rfl)
 (repeat' (first|walk_at "n"|fail))
 refine ⟨_,neP pc,id,eS (by walk_at "lst"),by rw [aj];lia,?_,fun D hD=>?_⟩
 ·intro i a D acc cx' ha hD ok hh
  obtain ⟨p,hp',rfl⟩:=jG ha
  refine ⟨qR ?_,fun _=>?_⟩
  ·(repeat' (first|with_reducible refine fn ?_|walk_at "n"|((with_reducible refine bI ?qa ?_);(case qa=>with_unfolding_all rfl))|((with_reducible refine' yp (by walk_at "ok") ?_))|fail))
   exact ⟨rfl,AS.Kept.refl _⟩
  ·(repeat' (first|walk_at "n"|fail))
   exact ⟨rfl,AS.Kept.refl _⟩
 ·rw [wN]
  have hlf:(hs.filter fun q=>!decide (q=pc)).length≤hs.length:=fF _ _
  (repeat' (first|(with_reducible first|refine a' ?_|refine fn ?_|refine aW ?_|refine av ?_|refine eF ?_|refine cG ?_|refine bf ?_|refine aN ?_|refine dc ?_|refine nE ?_|fail)|((with_reducible refine aT (by walk_at "ok") ?qa ?qb ?_);(case qa=>exact rfl);(case qb=>exact rfl))|walk_at "n"|((with_reducible refine' c9 (by walk_at "ok") ?qa ?qc ?qd ?qe ?qb ?qf ?_);(case qa=>exact rfl);(case qb=>decide);(case qc=>k_is);(case qd=>decide);(case qe=>boot_by_name);(case qf=>exact ⟨fun ux=>rfl,fun ux=>rfl⟩))|walk_at "k"|((with_reducible refine bI ?qa ?_);(case qa=>with_unfolding_all rfl))|((with_reducible refine eq ?qa ?_);(case qa=>walk_at "pos"))|with_reducible refine mL (fun _=>?_) (fun _=>?_)|((with_reducible refine' iJ ?qa ?qb ?_);(case qa=>walk_at "lst");(case qb=>walk_at "num"))|((with_reducible refine io ?_ ?qa);(case qa=>(intro _ _;with_unfolding_all rfl)))|((with_reducible refine gM (by walk_at "ok") ?qa ?_);(case qa=>(intro env;rfl)))|((with_reducible refine' jk ?qa ?_);(case qa=>exact je.mk (by k_is) (by walk_at "hp") (by walk_at "hp")))|((with_reducible refine wV (by assumption) ?qa ?qb ?_);(case qa=>exact rfl);(case qb=>exact ⟨fun ux=>rfl,fun ux=>rfl⟩))|((with_reducible refine rz (Fx.gx (by assumption)) (.inl (Fx.hh (by assumption))) ?qa ?_);(case qa=>exact ⟨⟨_,fun ux=>rfl⟩,fun ux=>rfl⟩))|fail))
  ·refine oP (hY.sub (by walk_at "sub")) (fun q=>absurd q (by rw [hgt];intro w;cases w)) (fun i t' sp' σ' hx hik l' b' hY'=>?_)
   have bb:σ₁.But S H σ':=(AS.But.sub (by walk_at "sub")).trans b'
   (repeat' (first|(with_reducible first|refine a' ?_|refine ch ?_|refine av ?_|refine cF ?_|fail)|walk_at "n"|fail))
   refine gt (hq _ D rfl (YH.loc ⟨t',sp',_,hs.filter fun q=>!decide (q=pc),hY',?_,qr hp hY.rep.khd hpm,?_,bb⟩))
   ·refine b'.at (sp:=sp) (hd:=hd) (by walk_at "hp") (by walk_at "hp") (by walk_at "hp") (by intro d q;cases q)
   ·exact aI kG (cX hlen)
  ·rw [aj]
   refine v_div g.ok (by lia) ?_
   (repeat' (first|with_reducible refine aN ?_|walk_at "n"|walk_at "k"|fail))
   refine ⟨_,k,rfl,hk,fun v hv=>?_⟩
   (repeat' (first|(with_reducible first|refine a' ?_|refine av ?_|refine bf ?_|refine aN ?_|refine dc ?_|fail)|((with_reducible refine aT (by walk_at "ok") ?qa ?qb ?_);(case qa=>exact rfl);(case qb=>exact rfl))|walk_at "n"|walk_at "k"|(with_reducible refine AB (by assumption) ?_)|((with_reducible refine io ?_ ?qa);(case qa=>(intro _ _;with_unfolding_all rfl)))|((with_reducible refine' jk ?qa ?_);(case qa=>exact je.mk (by k_is) (by walk_at "hp") (by walk_at "hp")))|((with_reducible refine A7 (by assumption) ?qa ?_);(case qa=>exact ⟨⟨_,fun ux=>rfl⟩,fun ux=>rfl⟩))|fail))
   refine E4 (hY.sub (by walk_at "sub")) (fun q=>absurd q (by rw [hgt];intro w;cases w)) (fun q C hC=>?_) (fun q C hC=>?_) (fun i j t' sp' σ' hx q1 q2 hj hjk l' b' hY'=>?_)
   iterate 2
    obtain rfl:=ft hC (by k_is)
    refine ky g.ok rfl (by k_is) (by kts_exm) (by decide) fun cx ok=>?_
    (repeat' (first|(with_reducible first|refine a' ?_|refine ch ?_|refine aW ?_|refine av ?_|refine cF ?_|refine cG ?_|refine bf ?_|refine aN ?_|refine fU ?_|refine dO ?_|refine dc ?_|fail)|walk_at "n"|walk_at "k"|((with_reducible refine iu ?qa (fun _ _=>?_));(case qa=>exact am rfl))|((with_reducible refine And.intro ?qa ?_);(case qa=>(show bM _≤aH;exact am rfl)))|((with_reducible refine io ?_ ?qa);(case qa=>(intro _ _;with_unfolding_all rfl)))|fail))
    exact same _ (by walk_at "sub")
   have bb:σ₁.But S H σ':=(AS.But.sub (by walk_at "sub")).trans b'
   have fD:σ'.hp D=some (.list ((hs.filter fun q=>!decide (q=pc)).map eC)):=b'.at (sp:=sp) (hd:=hd) (by walk_at "hp") (by walk_at "hp") (by walk_at "hp") (by intro d q;cases q)
   (repeat' (first|fail))
   rename_i zl hzl
   refine iq (by walk_at "lst") (by walk_at "lst") (by simp only [aj,bj,fR];lia) fun z' hz'=>?_
   (repeat' (first|with_reducible refine ch ?_|fail))
   refine gt (hq _ z' rfl (YH.loc ⟨t',sp',_,(hs.filter fun q=>!decide (q=pc))++[(pc.1,2 ^ j)],hY'.sub (by walk_at "sub"),?_,zf hp hY.rep.khd hpm _,?_,fun a o n1 n2 q=>?_⟩))
   ·rw [bu]
    exact aX
   ·rw [tf hY.rep.khd ((cH hY.rep.khd).mp hgt)];exact cX hlen
   ·have:=bb a o n1 n2 q
    walk_at "hp"
theorem A8 (g:Fx af (hK w.params) cx sc (n+2)) {args:List Expr} {px:Pos} (hx:sc.names.lookup (aa "_law_touched")=some .globalImplicit) (hp:eB (aa "_law_touched") px args pos)
  (h:fN af w cx pos args σ (tX Q) E):bZ af w cx (.Call (.Name (aa "_law_touched") px) args [] pos) σ Q E:=by
 refine dz g.ok hx (by k_is) (by k_is) (by decide) hp (h.imp (fun l σ₁ qA=>?_) fun ux ux e=>e)
 obtain ⟨z,j,hs,hl,hz,hlen,hq⟩:=qA
 subst hl
 refine eT (ps:=[aa "_law_held",aa "_law_size"]) g (ed (by k_is) (by k_is) (by k_is) (nB rfl fun ux ux=>rfl) (by decide) rfl rfl rfl (by decide)) rfl fun cx g=>?_
 have e6:aH=2 ^ 24:=rfl
 have hj:=dI j
 have hz':(σ₁.enter [aa "_law_held",aa "_law_size"] [.ref z,.int (2 ^ j)]).hp z=some (.list (hs.map eC)):=hz
 (repeat' (first|with_reducible refine av ?_|((with_reducible refine aT (by walk_at "ok") ?qa ?qb ?_);(case qa=>exact rfl);(case qb=>exact rfl))|((with_reducible refine' c9 (by walk_at "ok") ?qa ?qc ?qd ?qe ?qb ?qf ?_);(case qa=>exact rfl);(case qb=>decide);(case qc=>k_is);(case qd=>decide);(case qe=>boot_by_name);(case qf=>exact ⟨fun ux=>rfl,fun ux=>rfl⟩))|walk_at "k"|fail))
 refine lT g.ok g.hh ⟨rfl,by decide,by decide,by decide,by decide,rfl⟩ ?_ (fun ux=>rfl)
 (repeat' (first|walk_at "n"|fail))
 refine ⟨_,E0 (2 ^ j),bigF (2 ^ j),eS (by walk_at "lst"),by rw [aj];lia,?_,fun D hD=>?_⟩
 ·intro i a D acc cx' ha hD ok hh
  obtain ⟨p,hp',rfl⟩:=jG ha
  refine ⟨qR ?_,fun _=>?_⟩
  ·(repeat' (first|(with_reducible first|refine fn ?_|refine bf ?_|refine dc ?_|refine rt ?_|fail)|walk_at "n"|((with_reducible refine bI ?qa ?_);(case qa=>with_unfolding_all rfl))|((with_reducible refine lm ?_ ?qa);(case qa=>(intro _ _;with_unfolding_all rfl)))|fail))
   exact ⟨rfl,AS.Kept.refl _⟩
  ·(repeat' (first|(with_reducible first|refine cG ?_|refine bf ?_|refine dc ?_|fail)|walk_at "n"|((with_reducible refine v_div (by walk_at "ok") ?qa ?_);(case qa=>walk_at "pos"))|((with_reducible refine lm ?_ ?qa);(case qa=>(intro _ _;with_unfolding_all rfl)))|fail))
   exact ⟨rfl,AS.Kept.refl _⟩
 rw [s9]
 (repeat' (first|with_reducible refine aN ?_|fail))
 refine AX g.hh (by walk_at "lst") ?_
 (repeat' (first|(with_reducible first|refine a' ?_|refine av ?_|refine cF ?_|refine cG ?_|fail)|walk_at "n"|((with_reducible refine' c9 (by walk_at "ok") ?qa ?qc ?qd ?qe ?qb ?qf ?_);(case qa=>exact rfl);(case qb=>decide);(case qc=>k_is);(case qd=>decide);(case qe=>boot_by_name);(case qf=>exact ⟨fun ux=>rfl,fun ux=>rfl⟩))|((with_reducible refine' dQ (by walk_at "ok") ?qa ?qc ?qd ?qe ?qb ?qf ?_);(case qa=>exact rfl);(case qb=>decide);(case qc=>k_is);(case qd=>decide);(case qe=>boot_by_name);(case qf=>exact ⟨fun ux=>rfl,fun ux=>rfl⟩))|walk_at "k"|fail))
 refine lT g.ok g.hh ⟨rfl,by decide,by decide,by decide,by decide,rfl⟩ ?_ (fun ux=>rfl)
 (repeat' (first|walk_at "n"|fail))
 refine ⟨_,D6 (2 ^ j),smlF (2 ^ j),eS (by walk_at "lst"),by rw [aj];lia,?_,fun D' hD'=>?_⟩
 ·intro i a D'' acc cx' ha hD'' ok hh
  obtain ⟨p,hp',rfl⟩:=jG ha
  refine ⟨qR ?_,fun _=>?_⟩
  ·(repeat' (first|(with_reducible first|refine fn ?_|refine bf ?_|refine dc ?_|refine eU ?_|fail)|walk_at "n"|((with_reducible refine bI ?qa ?_);(case qa=>with_unfolding_all rfl))|((with_reducible refine lm ?_ ?qa);(case qa=>(intro _ _;with_unfolding_all rfl)))|fail))
   exact ⟨rfl,AS.Kept.refl _⟩
  ·(repeat' (first|(with_reducible first|refine cG ?_|refine bf ?_|refine dc ?_|fail)|walk_at "n"|((with_reducible refine v_div (by walk_at "ok") ?qa ?_);(case qa=>walk_at "pos"))|((with_reducible refine io ?_ ?qa);(case qa=>(intro _ _;with_unfolding_all rfl)))|fail))
   exact ⟨rfl,AS.Kept.refl _⟩
 rw [s8]
 (repeat' (first|with_reducible refine aN ?_|fail))
 refine EQ g.hh (by walk_at "lst") (by rw [aj];have:=fF (fun p:Int×Int=>decide (p.2<2 ^ j)) hs;lia) fun u m hu hm=>?_
 (repeat' (first|with_reducible refine aN ?_|fail))
 refine u1 (by walk_at "hp") ?_
 (repeat' (first|(with_reducible first|refine ch ?_|refine eI ?_|fail)|fail))
 exact ⟨by walk_at "sub",hq m hm⟩
theorem A9 (g:Fx af (hK w.params) cx sc (n+1)) {args:List Expr} {px:Pos} (hx:sc.names.lookup (aa "_law_owner")=some .globalImplicit) (hp:eB (aa "_law_owner") px args pos)
  (h:fN af w cx pos args σ (tY Q) E):bZ af w cx (.Call (.Name (aa "_law_owner") px) args [] pos) σ Q E:=by
 refine dz g.ok hx (by k_is) (by k_is) (by decide) hp (h.imp (fun l σ₁ qA=>?_) fun ux ux e=>e)
 obtain ⟨z,c,hs,hl,hz,ho,hq⟩:=qA
 subst hl
 refine eT (ps:=[aa "_law_held",aa "_law_cell"]) g (ed (by k_is) (by k_is) (by k_is) (nB rfl fun ux ux=>rfl) (by decide) rfl rfl rfl (by decide)) rfl fun cx g=>?_
 show cf _ _ _ (_::_) _ _ _
 refine av (gG g rfl (fun ux=>rfl) ?_)
 (repeat' (first|walk_at "n"|fail))
 refine ⟨z,_,fun i σ=>σ.loc (aa "_law_cell")=some (.int c)∧σ₁.Sub σ∧∀ q∈hs.take i,jj c q=false,rfl,⟨by walk_at "lk",fun a o e=>e,fun q hq=>by rw [iQ] at hq;cases hq⟩,fun i σ h=>h.2.1 _ _ hz,?_,?_⟩
 ·rintro i a σ cx g ha ⟨j1,j4,j5⟩
  obtain ⟨p,hp,rfl⟩:=jG ha
  have hpm:=aE hp
  (repeat' (first|(with_reducible first|refine a' ?_|refine ch ?_|refine fn ?_|refine aW ?_|refine av ?_|refine eF ?_|refine cF ?_|refine cG ?_|refine bf ?_|refine eZ ?_|refine iB ?_|refine qt ?_|refine dc ?_|refine eI ?_|refine eU ?_|refine rq ?_|refine cU ?_|refine bN ?_|fail)|walk_at "n"|((with_reducible refine bI ?qa ?_);(case qa=>with_unfolding_all rfl))|with_reducible refine cz (fun _=>?_) (fun _=>?_)|((with_reducible refine io ?_ ?qa);(case qa=>(intro _ _;with_unfolding_all rfl)))|((with_reducible refine lm ?_ ?qa);(case qa=>(intro _ _;with_unfolding_all rfl)))|fail))
  ·refine ⟨j4,?_⟩
   rw [kl ho hpm (by unfold jj;simp only [decide_eq_true_eq];exact ⟨by assumption,by assumption⟩)] at hq
   exact hq
  ·exact ⟨by walk_at "lk",j4,mE hp j5 (by unfold jj;simp only [decide_eq_false_iff_not];lia)⟩
  ·exact ⟨by walk_at "lk",j4,mE hp j5 (by unfold jj;simp only [decide_eq_false_iff_not];lia)⟩
 ·rintro σ ⟨j1,j4,j5⟩
  (repeat' (first|(with_reducible first|refine a' ?_|refine ch ?_|refine av ?_|refine cF ?_|refine jO ?_|fail)|fail))
  refine ⟨j4,?_⟩
  rw [aj,fm] at j5
  rw [lB j5] at hq
  exact hq
theorem A6 (g:Fx af (hK w.params) cx sc (n+6)) {args:List Expr} {px:Pos} (hx:sc.names.lookup (aa "_law_told")=some .globalImplicit) (hp:eB (aa "_law_told") px args pos)
  (h:fN af w cx pos args σ (tW (hK w.params) 98 (⟨40,48,40,88⟩:Pos) (aa "give_all"++".<locals>."++"<lambda>") Q) E):bZ af w cx (.Call (.Name (aa "_law_told") px) args [] pos) σ Q E:=by
 refine dz g.ok hx (by k_is) (by k_is) (by decide) hp (h.imp (fun l σ₁ qA=>?_) fun ux ux e=>e)
 obtain ⟨y,u,k,t,C,dx,S,H,sp,hd,vs,hl,hY,hu,hlen,ga,hw,hn,hq⟩:=qA
 subst hl
 obtain rfl:=ft hY.is.cls (by k_is)
 refine eO (ps:=[aa "_law_yard",aa "_law_wants"]) g (ed (by k_is) (by k_is) (by k_is) (nB rfl fun ux ux=>rfl) (by decide) rfl rfl rfl (by decide)) rfl fun cx g=>?_
 show cf _ _ _ (_::_) _ _ _
 refine av (CS g ?_)
 (repeat' (first|with_reducible refine av ?_|((with_reducible refine aT (by walk_at "ok") ?qa ?qb ?_);(case qa=>exact rfl);(case qb=>exact rfl))|fail))
 refine u5 g rfl ⟨fun ux=>rfl,fun ux=>rfl⟩ ?_
 (repeat' (first|with_reducible refine aN ?_|walk_at "n"|walk_at "k"|fail))
 refine ⟨y,u,k,t,_,dx,S,H,sp,hd,vs,rfl,hY.sub (fun ux ux e=>e),hu,hlen,ga.sub (fun ux ux e=>e),fun ux ux=> .inl rfl,fun q Cw hC=> .inr ?_,fun q1 q2 Cr hC=> .inr ?_,fun q1 q2 σ' sp' l' hY' b' ga' Cr hC=> .inr ?_,fun q1 d ho due σ' r t' sp' l' hY' hr b' ga' nw=>?_⟩
 ·obtain rfl:=ft hC (by k_is)
  refine ky g.ok rfl (by k_is) (by kts_exm) (by decide) fun cx ok=>?_
  (repeat' (first|(with_reducible first|refine ch ?_|refine av ?_|refine cF ?_|refine dR ?_|refine aN ?_|refine fU ?_|refine dO ?_|fail)|walk_at "k"|((with_reducible refine iu ?qa (fun _ _=>?_));(case qa=>exact am rfl))|((with_reducible refine And.intro ?qa ?_);(case qa=>(show bM _≤aH;exact am rfl)))|fail))
  rename_i r hr
  exact gt (hw q _ r (gW (o:=.list []) hr) rfl aX)
 ·obtain rfl:=ft hC (by k_is)
  refine vZ g.ok rfl (by k_is) (by kts_exm) (by decide) ?_
  refine ky g.ok rfl (by k_is) (by kts_exm) (by decide) fun cx ok=>?_
  (repeat' (first|(with_reducible first|refine ch ?_|refine av ?_|refine cF ?_|refine dR ?_|refine aN ?_|refine fU ?_|refine dO ?_|fail)|walk_at "k"|((with_reducible refine iu ?qa (fun _ _=>?_));(case qa=>exact am rfl))|((with_reducible refine And.intro ?qa ?_);(case qa=>(show bM _≤aH;exact am rfl)))|fail))
  rename_i r hr
  exact gt (hn (.inl ⟨q1,q2⟩) _ r sp rfl (hY.sub (gW hr)) (fun a o ux ux ux e=>fJ hr e) (ga.sub (gW hr)) aX)
 ·obtain rfl:=ft hC (by k_is)
  refine vZ g.ok rfl (by k_is) (by kts_exm) (by decide) ?_
  refine ky g.ok rfl (by k_is) (by kts_exm) (by decide) fun cx ok=>?_
  (repeat' (first|(with_reducible first|refine ch ?_|refine av ?_|refine cF ?_|refine dR ?_|refine aN ?_|refine fU ?_|refine dO ?_|fail)|walk_at "k"|((with_reducible refine iu ?qa (fun _ _=>?_));(case qa=>exact am rfl))|((with_reducible refine And.intro ?qa ?_);(case qa=>(show bM _≤aH;exact am rfl)))|fail))
  rename_i r hr
  exact gt (hn (.inr ⟨q1,q2⟩) _ r sp' rfl (hY'.sub (gW hr)) (fun a o n1 n2 n3 e=>fJ hr (b' a o n1 n2 n3 e)) (ga'.sub (gW hr)) aX)
 ·(repeat' (first|(with_reducible first|refine a' ?_|refine ch ?_|refine aW ?_|refine av ?_|refine cF ?_|refine dR ?_|refine aN ?_|refine fU ?_|fail)|walk_at "n"|walk_at "k"|((with_reducible refine And.intro ?qa ?_);(case qa=>(show bM _≤aH;exact am rfl)))|fail))
  exact gt (hq q1 d ho due _ r t' sp' rfl (hY'.sub fun ux ux e=>e) hr (fun a o n1 n2 n3 e=>b' a o n1 n2 n3 e) (ga'.sub fun ux ux e=>e) fun a o n1 n2 n3 e=>nw a o n1 n2 n3 e)
theorem Db (g:Fx af (hK w.params) cx sc (n+4)) {args:List Expr} {px:Pos} (hx:sc.names.lookup (aa "_law_due")=some .globalImplicit) (hp:eB (aa "_law_due") px args pos)
  (h:fN af w cx pos args σ (w' Q) E):bZ af w cx (.Call (.Name (aa "_law_due") px) args [] pos) σ Q E:=by
 refine dz g.ok hx (by k_is) (by k_is) (by decide) hp (h.imp (fun l σ₁ qA=>?_) fun ux ux e=>e)
 obtain ⟨z,u,k,hs,vs,hl,hk,hz,hu,hlen,hvl,h1,h2,h3,h4⟩:=qA
 subst hl
 refine eT (ps:=[aa "_law_held",aa "_law_wants",aa "_law_cells"]) g (ed (by k_is) (by k_is) (by k_is) (Cs rfl fun ux ux ux=>rfl) (by decide) rfl rfl rfl (by decide)) rfl fun cx g=>?_
 have e6:aH=2 ^ 24:=rfl
 have hk0:=dI k
 have hk6:=gI hk
 have hz':(σ₁.enter [aa "_law_held",aa "_law_wants",aa "_law_cells"] [.ref z,.ref u,.int (2 ^ k)]).hp z=some (.list (hs.map eC)):=hz
 have hu':(σ₁.enter [aa "_law_held",aa "_law_wants",aa "_law_cells"] [.ref z,.ref u,.int (2 ^ k)]).hp u=some (.list (vs.map AV.int)):=hu
 (repeat' (first|(with_reducible first|refine av ?_|refine eF ?_|fail)|((with_reducible refine bI ?qa ?_);(case qa=>with_unfolding_all rfl))|fail))
 refine Dv g.ok rfl (by k_is) (by decide) (by boot_by_name) (by decide) (fun ux=>rfl) ?_
 (repeat' (first|with_reducible refine bf ?_|walk_at "n"|fail))
 refine Eo g.hh (by walk_at "lst") fun v q0 q1=>?_
 (repeat' (first|(with_reducible first|refine a' ?_|refine ch ?_|refine fn ?_|refine aW ?_|refine av ?_|refine eF ?_|refine cF ?_|refine bf ?_|refine dR ?_|refine eU ?_|fail)|((with_reducible refine bI ?qa ?_);(case qa=>with_unfolding_all rfl))|with_reducible refine cz (fun _=>?_) (fun _=>?_)|fail))
 ·rename_i q
  refine ⟨fun ux ux e=>e,h1 ?_⟩
  by_cases hn:vs=[]
  ·have:=q0 hn;lia
  ·exact ⟨v,(q1 hn).1,q⟩
 rename_i q
 have a1:∀ a∈vs,1≤a:=fun a ha=>by
  have hn:vs≠[]:=fun z=>by rw [z] at ha;cases ha
  have:=(q1 hn).2 a ha
  lia
 clear q0 q1 q
 refine Dv g.ok rfl (by k_is) (by decide) (by boot_by_name) (by decide) (fun ux=>rfl) ?_
 (repeat' (first|with_reducible refine bf ?_|walk_at "n"|fail))
 refine Ep g.hh (by walk_at "lst") fun v q0 q1=>?_
 (repeat' (first|(with_reducible first|refine a' ?_|refine ch ?_|refine fn ?_|refine aW ?_|refine av ?_|refine cF ?_|refine dR ?_|refine jT ?_|fail)|walk_at "n"|with_reducible refine cz (fun _=>?_) (fun _=>?_)|fail))
 ·rename_i q
  refine ⟨fun ux ux e=>e,h2 a1 ?_⟩
  by_cases hn:vs=[]
  ·have:=q0 hn;lia
  ·exact ⟨v,(q1 hn).1,q⟩
 rename_i q
 have a2:∀ a∈vs,1≤a∧a≤2 ^ k:=fun a ha=>by
  have hn:vs≠[]:=fun z=>by rw [z] at ha;cases ha
  have:=(q1 hn).2 a ha
  exact ⟨a1 a ha,by lia⟩
 clear q0 q1 q
 refine uc g.ok g.hh ⟨rfl,by decide,by decide,by decide,by decide,rfl⟩ rfl (iC g.ok rfl rfl (by decide)) ?_ (fun ux=>rfl)
 (repeat' (first|walk_at "n"|fail))
 refine ⟨_,fun ux=>true,fitF,eS (by walk_at "lst"),by rw [aj];lia,?_,fun D hD=>?_⟩
 ·intro i a D' acc cx' ha hD' ok hh
  obtain ⟨v,hv,rfl⟩:=jn ha
  have:=a2 v (aE hv)
  refine ⟨i7 ⟨rfl,AS.Kept.refl _⟩,fun _=>?_⟩
  (repeat' (first|with_reducible refine aN ?_|walk_at "n"|walk_at "k"|((with_reducible refine rA (by assumption) (by assumption) ?qa ?qb ?_);(case qa=>exact rfl);(case qb=>exact ⟨fun ux=>rfl,fun ux=>rfl⟩))|fail))
  refine ⟨v,rfl,by lia,?_⟩
  exact ⟨rfl,AS.Kept.refl _⟩
 rw [yb]
 (repeat' (first|(with_reducible first|refine a' ?_|refine av ?_|refine bf ?_|fail)|((with_reducible refine jm (by walk_at "ok") ?qa ?_);(case qa=>exact rfl))|fail))
 refine li g (D1I σ₁ z D k hs vs) (k+1) ⟨0,rfl,by lia,fun i hi=>absurd hi (by lia),by show _=some (AV.int 1);walk_at "lk",by walk_at "lk",by walk_at "lk",by walk_at "lk",by walk_at "hp",by walk_at "hp",by walk_at "sub"⟩ ?_
 rintro m σ ⟨j,hm,hj,okj,ls,lh,lc,lf,hz,hD,sub⟩
 have hj0:=dI j
 (repeat' (first|(with_reducible first|refine a' ?_|refine ch ?_|refine fn ?_|refine av ?_|refine cF ?_|refine dR ?_|refine rq ?_|fail)|((with_reducible refine aT (by walk_at "ok") ?qa ?qb ?_);(case qa=>exact rfl);(case qb=>exact rfl))|walk_at "n"|((with_reducible refine' c9 (by walk_at "ok") ?qa ?qc ?qd ?qe ?qb ?qf ?_);(case qa=>exact rfl);(case qb=>decide);(case qc=>k_is);(case qd=>decide);(case qe=>boot_by_name);(case qf=>exact ⟨fun ux=>rfl,fun ux=>rfl⟩))|walk_at "k"|((with_reducible refine bI ?qa ?_);(case qa=>with_unfolding_all rfl))|with_reducible refine cz (fun _=>?_) (fun _=>?_)|fail))
 ·rename_i q
  have hjk:j≤k:=tH fun w=>by have:=gp w;lia
  refine lT g.ok g.hh ⟨rfl,by decide,by decide,by decide,by decide,rfl⟩ ?_ (fun ux=>rfl)
  (repeat' (first|walk_at "n"|fail))
  refine ⟨_,bgP (2 ^ j),bgF (2 ^ j),eS (by walk_at "lst"),by rw [aj];unfold um;rw [aj];lia,?_,fun D2 hD2=>?_⟩
  ·intro i a D' acc cx' ha hD' ok hh
   obtain ⟨v,hv,rfl⟩:=jn ha
   refine ⟨qR ?_,fun _=>?_⟩
   ·(repeat' (first|(with_reducible first|refine fn ?_|refine rt ?_|fail)|walk_at "n"|((with_reducible refine bI ?qa ?_);(case qa=>with_unfolding_all rfl))|fail))
    exact ⟨rfl,AS.Kept.refl _⟩
   ·(repeat' (first|with_reducible refine cG ?_|walk_at "n"|((with_reducible refine v_div (by walk_at "ok") ?qa ?_);(case qa=>walk_at "pos"))|fail))
    exact ⟨rfl,AS.Kept.refl _⟩
  rw [CR]
  (repeat' (first|with_reducible refine aN ?_|fail))
  refine AX g.hh (by walk_at "lst") ?_
  (repeat' (first|(with_reducible first|refine a' ?_|refine av ?_|refine eF ?_|refine cG ?_|refine aN ?_|fail)|walk_at "n"|walk_at "k"|((with_reducible refine bI ?qa ?_);(case qa=>with_unfolding_all rfl))|((with_reducible refine v_div (by walk_at "ok") ?qa ?_);(case qa=>walk_at "pos"))|((with_reducible refine A8 (by assumption) ?qa ?qb ?_);(case qa=>exact rfl);(case qb=>exact ⟨fun ux=>rfl,fun ux=>rfl⟩))|fail))
  refine ⟨z,j,hs,rfl,by walk_at "hp",hlen,fun m' hm'=>?_⟩
  (repeat' (first|(with_reducible first|refine a' ?_|refine ch ?_|refine fn ?_|refine aW ?_|refine av ?_|refine cF ?_|refine cG ?_|refine bf ?_|refine dR ?_|refine ja ?_|refine jT ?_|fail)|walk_at "n"|with_reducible refine cz (fun _=>?_) (fun _=>?_)|((with_reducible refine v_mul ?qa ?_);(case qa=>walk_at "mul"))|((with_reducible refine jm (by walk_at "ok") ?qa ?_);(case qa=>exact rfl))|fail))
  ·rename_i q2
   exact ⟨by walk_at "sub",h3 a2 ⟨j,m',hjk,hm',q2⟩⟩
  ·rename_i q2
   refine ⟨k+1 - (j+1),by lia,j+1,rfl,by lia,fun i hi=>?_,by rw [gm,eW],by walk_at "lk",by walk_at "lk",by walk_at "lk",by walk_at "hp",by walk_at "hp",by walk_at "sub"⟩
   rcases dE i j with w|w
   ·exact okj i w
   ·obtain rfl:i=j:=by lia
    exact ⟨m',hm',Int.not_lt.mp q2⟩
 ·rename_i q
  have hjk:j=k+1:=ce hj (dj fun w=>by have:=iF w;contradiction)
  exact ⟨sub,h4 a2 fun i hi=>okj i (by lia)⟩
theorem Bc (g:Fx af (hK w.params) cx sc (n+1)) {args:List Expr} {px:Pos} (hx:sc.names.lookup (aa "_law_halves")=some .globalImplicit) (hp:eB (aa "_law_halves") px args pos)
  (h:fN af w cx pos args σ (t6 Q) E):bZ af w cx (.Call (.Name (aa "_law_halves") px) args [] pos) σ Q E:=by
 refine dz g.ok hx (by k_is) (by k_is) (by decide) hp (h.imp (fun l σ₁ qA=>?_) fun ux ux e=>e)
 obtain ⟨x,c,ns,hl,hx,hn,hq⟩:=qA
 subst hl
 refine eO (ps:=[aa "_law_cells",aa "_law_row"]) g (ed (by k_is) (by k_is) (by k_is) (nB rfl fun ux ux=>rfl) (by decide) rfl rfl rfl (by decide)) rfl fun cx g=>?_
 have e6:aH=2 ^ 24:=rfl
 have hx':(σ₁.enter [aa "_law_cells",aa "_law_row"] [.int c,.ref x]).hp x=some (.list (ns.map AV.int)):=hx
 (repeat' (first|(with_reducible first|refine a' ?_|refine av ?_|refine aN ?_|refine dO ?_|fail)|((with_reducible refine aT (by walk_at "ok") ?qa ?qb ?_);(case qa=>exact rfl);(case qb=>exact rfl))|walk_at "n"|walk_at "k"|((with_reducible refine iu ?qa (fun _ _=>?_));(case qa=>exact am rfl))|fail))
 rename_i z0 hz0
 refine gG g rfl (fun ux=>rfl) ?_
 (repeat' (first|walk_at "n"|fail))
 refine ⟨x,ns.map AV.int,HlI σ₁ x ns,rfl,⟨z0,[c],by show _=some (AO.list [AV.int c]);walk_at "hp",by simp,by simp,by walk_at "lk",by walk_at "hp",by walk_at "sub"⟩,fun i σ ⟨_,_,_,_,_,_,h,_⟩=>h,?_,?_⟩
 ·rintro i a σ cx g ha ⟨z,ws,hz,h0,hl,lz,hx,sub⟩
  obtain ⟨v,hv,rfl⟩:=jn ha
  have hi:i<63:=bO (aF.mp hv).1 hn
  have hws:ws.length≤100:=aI (aI hl hi) (by decide)
  have hw6:=ze hws
  (repeat' (first|(with_reducible first|refine av ?_|refine cG ?_|refine aN ?_|fail)|((with_reducible refine aT (by walk_at "ok") ?qa ?qb ?_);(case qa=>exact rfl);(case qb=>exact rfl))|walk_at "n"|((with_reducible refine' c9 (by walk_at "ok") ?qa ?qc ?qd ?qe ?qb ?qf ?_);(case qa=>exact rfl);(case qb=>decide);(case qc=>k_is);(case qd=>decide);(case qe=>boot_by_name);(case qf=>exact ⟨fun ux=>rfl,fun ux=>rfl⟩))|walk_at "k"|((with_reducible refine' iJ ?qa ?qb ?_);(case qa=>walk_at "lst");(case qb=>walk_at "num"))|fail))
  rw [aj]
  refine eq (Int.natCast_pos.mpr h0) ?_
  obtain ⟨hj0,hj1⟩:=Ei (v:=v) h0
  generalize v % (ws.length:Int)=j at hj0 hj1 ⊢
  clear hw6
  (repeat' (first|(with_reducible first|refine a' ?_|refine av ?_|refine cG ?_|refine dc ?_|fail)|((with_reducible refine aT (by walk_at "ok") ?qa ?qb ?_);(case qa=>exact rfl);(case qb=>exact rfl))|walk_at "n"|fail))
  refine jg (by walk_at "lst") hj0 hj1 (aI hws (by decide)) ?_ (by intro _ _;with_unfolding_all rfl)
  obtain ⟨k1,k2⟩:=EP hj0 hj1
  (repeat' (first|(with_reducible first|refine oX ?_|refine a' ?_|refine fn ?_|refine aW ?_|refine av ?_|refine eF ?_|refine cG ?_|refine bf ?_|refine jT ?_|fail)|((with_reducible refine aT (by walk_at "ok") ?qa ?qb ?_);(case qa=>exact rfl);(case qb=>exact rfl))|walk_at "n"|((with_reducible refine bI ?qa ?_);(case qa=>with_unfolding_all rfl))|((with_reducible refine v_div (by walk_at "ok") ?qa ?_);(case qa=>walk_at "pos"))|with_reducible refine cz (fun _=>?_) (fun _=>?_)|fail))
  ·refine ⟨_,_,_,rfl,rfl,by walk_at "lst",mP hws,fun z1 hz1=>?_⟩
   rw [k1]
   (repeat' (first|(with_reducible first|refine aN ?_|refine dO ?_|fail)|walk_at "n"|walk_at "k"|((with_reducible refine iu ?qa (fun _ _=>?_));(case qa=>exact am rfl))|fail))
   refine iq (by walk_at "lst") (by walk_at "lst") (s7 hws) fun z3 hz3=>?_
   (repeat' (first|(with_reducible first|refine oW ?_|refine cG ?_|refine bf ?_|refine eI ?_|fail)|walk_at "n"|fail))
   refine ⟨_,_,_,rfl,rfl,by walk_at "lst",mP hws,fun z4 hz4=>?_⟩
   rw [k2]
   refine iq (by walk_at "lst") (by walk_at "lst") (s6 hws) fun z5 hz5=>?_
   rw [sG]
   have c1:=AP (v:=iU ws j / 2) hj0 hj1
   generalize hw1:ws.take j.toNat++[iU ws j / 2]++ws.drop (j+1).toNat=ws1 at c1 ⊢
   clear hw1 k1 k2
   have hws1:ws1.length≤100:=by rw [c1];exact hws
   have hw6:=ze hws1
   have hw7:=yZ (l:=ws1.map AV.int)
   have hw8:=Cn (a:=iU ws j / 2 - iU ws j / 2 / 2)
   (repeat' (first|(with_reducible first|refine oX ?_|refine a' ?_|refine av ?_|refine cG ?_|refine bf ?_|refine aN ?_|refine eI ?_|fail)|((with_reducible refine aT (by walk_at "ok") ?qa ?qb ?_);(case qa=>exact rfl);(case qb=>exact rfl))|walk_at "n"|((with_reducible refine' c9 (by walk_at "ok") ?qa ?qc ?qd ?qe ?qb ?qf ?_);(case qa=>exact rfl);(case qb=>decide);(case qc=>k_is);(case qd=>decide);(case qe=>boot_by_name);(case qf=>exact ⟨fun ux=>rfl,fun ux=>rfl⟩))|walk_at "k"|((with_reducible refine eq ?qa ?_);(case qa=>walk_at "pos"))|((with_reducible refine v_div (by walk_at "ok") ?qa ?_);(case qa=>walk_at "pos"))|((with_reducible refine' iJ ?qa ?qb ?_);(case qa=>walk_at "lst");(case qb=>walk_at "num"))|fail))
   rw [aj]
   obtain ⟨hk0,hk1⟩:=Ck (v:=v / 21) (n:=ws1.length)
   generalize v / 21 % ((ws1.length:Int)+1)=m at hk0 hk1 ⊢
   have k3:=EO hk0 hk1
   refine ⟨_,_,_,rfl,rfl,by walk_at "lst",mP hws1,fun z6 hz6=>?_⟩
   rw [k3]
   (repeat' (first|(with_reducible first|refine cG ?_|refine bf ?_|refine aN ?_|refine dO ?_|refine ja ?_|fail)|walk_at "n"|((with_reducible refine' c9 (by walk_at "ok") ?qa ?qc ?qd ?qe ?qb ?qf ?_);(case qa=>exact rfl);(case qb=>decide);(case qc=>k_is);(case qd=>decide);(case qe=>boot_by_name);(case qf=>exact ⟨fun ux=>rfl,fun ux=>rfl⟩))|walk_at "k"|((with_reducible refine iu ?qa (fun _ _=>?_));(case qa=>exact am rfl))|((with_reducible refine eq ?qa ?_);(case qa=>walk_at "pos"))|((with_reducible refine v_div (by walk_at "ok") ?qa ?_);(case qa=>walk_at "pos"))|((with_reducible refine AY (by first|exact Fx.hh (by assumption)|assumption) ?_))|fail))
   refine iq (by walk_at "lst") (by walk_at "lst") (s7 hws1) fun z7 hz7=>?_
   (repeat' (first|with_reducible refine oW ?_|walk_at "n"|fail))
   refine ⟨_,_,_,rfl,rfl,by walk_at "lst",mP hws1,fun z8 hz8=>?_⟩
   rw [k3]
   refine iq (by walk_at "lst") (by walk_at "lst") (s6 hws1) fun z9 hz9=>?_
   rw [sG]
   (repeat' (first|(with_reducible first|refine a' ?_|refine aW ?_|fail)|fail))
   have c3:=AQ (v:=iU ws j / 2 - v / 441 % max 1 (iU ws j / 2 - iU ws j / 2 / 2)) hk0 hk1
   rw [c1] at c3
   exact ⟨z9,_,by walk_at "hp",by rw [c3];exact vt _,by rw [c3];exact cW hl,by walk_at "lk",by walk_at "hp",by walk_at "sub"⟩
  ·exact ⟨z,ws,by walk_at "hp",h0,cX hl,by walk_at "lk",by walk_at "hp",by walk_at "sub"⟩
 ·rintro σ ⟨z,ws,hz,h0,hl,lz,hx,sub⟩
  rw [aj] at hl
  (repeat' (first|(with_reducible first|refine a' ?_|refine ch ?_|refine av ?_|refine cF ?_|fail)|walk_at "n"|fail))
  exact gt (hq ws z _ (aI hl (aI (cW hn) (by decide))) sub rfl hz)
theorem A2 (g:Fx af (hK w.params) cx sc (n+4)) {args:List Expr} {px:Pos} (hx:sc.names.lookup (aa "_law_wishes")=some .globalImplicit) (hp:eB (aa "_law_wishes") px args pos)
  (h:fN af w cx pos args σ (tU Q) E):bZ af w cx (.Call (.Name (aa "_law_wishes") px) args [] pos) σ Q E:=by
 refine dz g.ok hx (by k_is) (by k_is) (by decide) hp (h.imp (fun l σ₁ qA=>?_) fun ux ux e=>e)
 obtain ⟨x,z,k,ns,hs,hl,hk,hx,hn,hz,hq⟩:=qA
 subst hl
 refine eO (ps:=[aa "_law_script",aa "_law_held",aa "_law_cells"]) g (ed (by k_is) (by k_is) (by k_is) (Cs rfl fun ux ux ux=>rfl) (by decide) rfl rfl rfl (by decide)) rfl fun cx g=>?_
 have e6:aH=2 ^ 24:=rfl
 have hk0:=dI k
 have hx':(σ₁.enter [aa "_law_script",aa "_law_held",aa "_law_cells"] [.ref x,.ref z,.int (2 ^ k)]).hp x=some (.ro (ns.map AV.int)):=hx
 have hz':(σ₁.enter [aa "_law_script",aa "_law_held",aa "_law_cells"] [.ref x,.ref z,.int (2 ^ k)]).hp z=some (.list (hs.map eC)):=hz
 show cf _ _ _ (_::_) _ _ _
 refine pW (WsI σ₁ x z k) ?_ ?_
 rotate_left
 ·(repeat' (first|(with_reducible first|refine bf ?_|refine aN ?_|fail)|walk_at "n"|walk_at "k"|((with_reducible refine jm (by walk_at "ok") ?qa ?_);(case qa=>exact rfl))|((with_reducible refine rB (by assumption) ?qa ?qb ?_);(case qa=>exact rfl);(case qb=>exact ⟨fun ux=>rfl,fun ux=>rfl⟩))|((with_reducible refine' rH ?qa ?qb ?qc ?qd ?_);(case qa=>walk_at "hp");(case qb=>with_reducible assumption);(case qc=>lia);(case qd=>lia))|fail))
  exact eE ⟨_,by walk_at "lk",by walk_at "lk",by walk_at "lk",by walk_at "lk",fun ux ux e=>e⟩
 clear hx' hz'
 rintro σ ⟨c,l1,l2,l3,l4,sub⟩
 have fx:=sub _ _ hx
 have fz:=sub _ _ hz
 show cf _ _ _ (_::_) _ _ _
 refine pW (WsI σ₁ x z k) ?_ ?_
 rotate_left
 ·(repeat' (first|(with_reducible first|refine fn ?_|refine aW ?_|refine av ?_|refine eF ?_|refine cF ?_|refine cG ?_|refine bf ?_|refine aN ?_|refine eZ ?_|refine iB ?_|refine qt ?_|refine dO ?_|refine nE ?_|refine cU ?_|refine bN ?_|fail)|walk_at "n"|((with_reducible refine bI ?qa ?_);(case qa=>with_unfolding_all rfl))|((with_reducible refine iu ?qa (fun _ _=>?_));(case qa=>exact am rfl))|((with_reducible refine eq ?qa ?_);(case qa=>walk_at "pos"))|((with_reducible refine v_div (by walk_at "ok") ?qa ?_);(case qa=>walk_at "pos"))|with_reducible refine cz (fun _=>?_) (fun _=>?_)|with_reducible refine mL (fun _=>?_) (fun _=>?_)|((with_reducible refine' i0 (by walk_at "ok") ?qa ?qb ?_);(case qa=>walk_at "lst");(case qb=>walk_at "lst"))|fail))
  ·refine qP g.ok g.hh ⟨rfl,by decide,by decide,by decide,by decide,rfl⟩ ?_ (fun ux=>rfl)
   (repeat' (first|(with_reducible first|refine cG ?_|refine bf ?_|refine aN ?_|fail)|walk_at "n"|((with_reducible refine' dQ (by walk_at "ok") ?qa ?qc ?qd ?qe ?qb ?qf ?_);(case qa=>exact rfl);(case qb=>decide);(case qc=>k_is);(case qd=>decide);(case qe=>boot_by_name);(case qf=>exact ⟨fun ux=>rfl,fun ux=>rfl⟩))|walk_at "k"|((with_reducible refine eq ?qa ?_);(case qa=>walk_at "pos"))|((with_reducible refine v_div (by walk_at "ok") ?qa ?_);(case qa=>walk_at "pos"))|((with_reducible refine gP (fun _ _=>?_)))|fail))
   rename_i ax hax
   have m0:0≤c / 270 % 199:=jB _ (by decide)
   have m1:c / 270 % 199<199:=fE _ (by decide)
   refine ⟨_,fun ux=>true,isI,jL aX (by lia) (by lia),by rw [aj,cC];lia,?_,fun D us hD hu=>?_⟩
   ·intro i a D' acc cx' ha hD' ok hh
    obtain ⟨hi,rfl⟩:=jF ha
    refine ⟨i7 ⟨rfl,AS.Kept.refl _⟩,fun _=>?_⟩
    (repeat' (first|(with_reducible first|refine cG ?_|refine bf ?_|refine eI ?_|fail)|walk_at "n"|((with_reducible refine eq ?qa ?_);(case qa=>walk_at "pos"))|((with_reducible refine v_div (by walk_at "ok") ?qa ?_);(case qa=>walk_at "pos"))|((with_reducible refine v_mul ?qa ?_);(case qa=>walk_at "mul"))|fail))
    exact ⟨⟨_,rfl⟩,AS.Kept.refl _⟩
   obtain ⟨vs,rfl,hvl⟩:=kN hu
   rw [bS.mpr (fun ux ux=>rfl),aj,cC] at hvl
   (repeat' (first|(with_reducible first|refine ch ?_|refine vV ?_|fail)|fail))
   exact gt (hq vs D _ (by lia) (by show AS.Sub σ₁ (AS.put _ _ _);walk_at "sub") rfl aX)
  ·exact eE ⟨c,by walk_at "lk",by walk_at "lk",by walk_at "lk",by walk_at "lk",by walk_at "sub"⟩
  ·exact eE ⟨c,by walk_at "lk",by walk_at "lk",by walk_at "lk",by walk_at "lk",by walk_at "sub"⟩
 clear l1 l2 l3 l4 sub fx fz c
 rintro σ ⟨c,l1,l2,l3,l4,sub⟩
 have fx:=sub _ _ hx
 have fz:=sub _ _ hz
 show cf _ _ _ (_::_) _ _ _
 refine pW (WsI σ₁ x z k) ?_ ?_
 rotate_left
 ·(repeat' (first|(with_reducible first|refine qO ?_|refine fn ?_|refine aW ?_|refine av ?_|refine eF ?_|refine cF ?_|refine cG ?_|refine bf ?_|refine aN ?_|refine dO ?_|fail)|walk_at "n"|walk_at "k"|((with_reducible refine bI ?qa ?_);(case qa=>with_unfolding_all rfl))|((with_reducible refine iu ?qa (fun _ _=>?_));(case qa=>exact am rfl))|with_reducible refine cz (fun _=>?_) (fun _=>?_)|((with_reducible refine' i0 (by walk_at "ok") ?qa ?qb ?_);(case qa=>walk_at "lst");(case qb=>walk_at "lst"))|((with_reducible refine Bc (by assumption) ?qa ?qb ?_);(case qa=>exact rfl);(case qb=>exact ⟨fun ux=>rfl,fun ux=>rfl⟩))|fail))
  ·refine ⟨_,_,_,_,rfl,rfl,rfl,by walk_at "lst",by rw [aj];lia,fun z1 hz1=>?_⟩
   rw [← List.map_drop,← List.map_take]
   (repeat' (first|with_reducible refine aN ?_|fail))
   refine ⟨z1,2 ^ k,_,rfl,by walk_at "hp",by rw [bh,bp];lia,fun vs r σ' hvl s' l' hr=>?_⟩
   have t1:σ'.loc (aa "_law_draw")=some (.int c):=by rw [l'];walk_at "lk"
   have s1:σ₁.Sub σ':=fun a o e=>s' a o (by show AS.hp _ a=some o;exact (show σ₁.Sub _ from by walk_at "sub") a o e)
   clear l' s'
   (repeat' (first|fail))
   refine qP g.ok g.hh ⟨rfl,by decide,by decide,by decide,by decide,rfl⟩ ?_ (fun ux=>rfl)
   (repeat' (first|(with_reducible first|refine cG ?_|refine bf ?_|refine aN ?_|refine nE ?_|fail)|walk_at "n"|((with_reducible refine' dQ (by walk_at "ok") ?qa ?qc ?qd ?qe ?qb ?qf ?_);(case qa=>exact rfl);(case qb=>decide);(case qc=>k_is);(case qd=>decide);(case qe=>boot_by_name);(case qf=>exact ⟨fun ux=>rfl,fun ux=>rfl⟩))|walk_at "k"|((with_reducible refine sC ?qa ?_);(case qa=>with_unfolding_all rfl))|((with_reducible refine eq ?qa ?_);(case qa=>walk_at "pos"))|((with_reducible refine v_div (by walk_at "ok") ?qa ?_);(case qa=>walk_at "pos"))|((with_reducible refine gP (fun _ _=>?_)))|(with_reducible refine tx ?_)|fail))
   rename_i ax hax
   generalize hb:(if (c / 9 % 5 == 1)=true then (1:Int) else 0)=b
   have b0:0≤b:=by rw [← hb];split <;> decide
   have b1:b≤1:=by rw [← hb];split <;> decide
   clear hb
   refine ⟨_,fun ux=>true,isI,jL aX (by lia) (by lia),by rw [aj,cC];lia,?_,fun D us hD hu=>?_⟩
   ·intro i a D' acc cx' ha hD' ok hh
    obtain ⟨hi,rfl⟩:=jF ha
    refine ⟨i7 ⟨rfl,AS.Kept.refl _⟩,fun _=>?_⟩
    (repeat' (first|(with_reducible first|refine cG ?_|refine bf ?_|refine eI ?_|fail)|walk_at "n"|((with_reducible refine eq ?qa ?_);(case qa=>walk_at "pos"))|fail))
    exact ⟨⟨_,rfl⟩,AS.Kept.refl _⟩
   obtain ⟨vs',rfl,hvl'⟩:=kN hu
   rw [bS.mpr (fun ux ux=>rfl),aj,cC] at hvl'
   have fr:((σ'.put ax (.range 0 b 1)).put D (.list (vs'.map AV.int))).hp r=some (.list (vs.map AV.int)):=by walk_at "hp"
   (repeat' (first|fail))
   refine iq (.inl fr) (.inl aX) (by rw [aj,aj];lia) fun z9 hz9=>?_
   rw [← bu]
   (repeat' (first|(with_reducible first|refine ch ?_|refine vV ?_|fail)|fail))
   exact gt (hq (vs++vs') z9 _ (by rw [au];lia) (by show AS.Sub σ₁ (AS.put _ _ _);walk_at "sub") rfl aX)
  ·exact eE ⟨c,by walk_at "lk",by walk_at "lk",by walk_at "lk",by walk_at "lk",by walk_at "sub"⟩
 clear l1 l2 l3 l4 sub fx fz c
 rintro σ ⟨c,l1,l2,l3,l4,sub⟩
 have fx:=sub _ _ hx
 show cf _ _ _ (_::_) _ _ _
 refine yX (WtI σ₁ k) ?_ ?_
 rotate_left
 ·(repeat' (first|(with_reducible first|refine fw ?_|refine cG ?_|refine bf ?_|refine eI ?_|fail)|((with_reducible refine aT (by walk_at "ok") ?qa ?qb ?_);(case qa=>exact rfl);(case qb=>exact rfl))|walk_at "n"|((with_reducible refine eq ?qa ?_);(case qa=>walk_at "pos"))|fail))
  refine qM g.ok g.hh ⟨rfl,by decide,by decide,by decide,by decide,rfl⟩ rfl (iC g.ok rfl rfl (by decide)) ?_ (fun ux=>rfl)
  (repeat' (first|(with_reducible first|refine qO ?_|refine cG ?_|refine bf ?_|refine eI ?_|fail)|walk_at "n"|((with_reducible refine eq ?qa ?_);(case qa=>walk_at "pos"))|((with_reducible refine v_div (by walk_at "ok") ?qa ?_);(case qa=>walk_at "pos"))|fail))
  refine ⟨_,_,_,_,rfl,rfl,rfl,by walk_at "lst",by rw [aj];lia,fun z1 hz1=>?_⟩
  refine ⟨_,fun ux=>true,isI,eS (.inl aX),aI lq (by lia),?_,fun D us hD hu=>?_⟩
  ·intro i a D' acc cx' ha hD' ok hh
   obtain ⟨v,rfl⟩:=sI ha
   refine ⟨i7 ⟨rfl,AS.Kept.refl _⟩,fun _=>?_⟩
   (repeat' (first|with_reducible refine aN ?_|walk_at "n"|walk_at "k"|((with_reducible refine tB (by assumption) (by assumption) ?qa ?qb ?_);(case qa=>exact rfl);(case qb=>exact ⟨fun ux=>rfl,fun ux=>rfl⟩))|fail))
   refine ⟨_,k,rfl,hk,fun v hv=>?_⟩
   (repeat' (first|fail))
   exact ⟨⟨_,rfl⟩,AS.Kept.refl _⟩
  obtain ⟨vs,rfl,hvl⟩:=kN hu
  rw [bS.mpr (fun ux ux=>rfl)] at hvl
  (repeat' (first|fail))
  exact eE ⟨c,D,vs,by rw [hvl];exact aI lq (by lia),by walk_at "lk",by walk_at "lk",by walk_at "lk",by walk_at "hp",by walk_at "sub"⟩
 rintro σ ⟨c,r,vs,hvl,l1,l4,lw,hr,sub⟩
 show cf _ _ _ (_::_) _ _ _
 refine pW (WtI σ₁ k) ?_ ?_
 ·rintro σ ⟨c,r,vs,hvl,l1,l4,lw,hr,sub⟩
  show cf _ _ _ (_::_) _ _ _
  (repeat' (first|(with_reducible first|refine ch ?_|refine av ?_|refine cF ?_|fail)|walk_at "n"|fail))
  exact gt (hq vs r _ (by lia) sub rfl hr)
 (repeat' (first|(with_reducible first|refine fn ?_|refine aW ?_|refine av ?_|refine eF ?_|refine cG ?_|refine bf ?_|refine kJ ?_|fail)|walk_at "n"|((with_reducible refine bI ?qa ?_);(case qa=>with_unfolding_all rfl))|((with_reducible refine eq ?qa ?_);(case qa=>walk_at "pos"))|((with_reducible refine v_div (by walk_at "ok") ?qa ?_);(case qa=>walk_at "pos"))|with_reducible refine iZ (fun _=>?_) (fun _=>?_)|fail))
 ·refine qM g.ok g.hh ⟨rfl,by decide,by decide,by decide,by decide,rfl⟩ rfl (iC g.ok rfl rfl (by decide)) ?_ (fun ux=>rfl)
  (repeat' (first|walk_at "n"|fail))
  refine ⟨_,fun ux=>true,isI,eS (by walk_at "lst"),by rw [aj];lia,?_,fun D us hD hu=>?_⟩
  ·intro i a D' acc cx' ha hD' ok hh
   obtain ⟨v,hv,rfl⟩:=jn ha
   refine ⟨i7 ⟨rfl,AS.Kept.refl _⟩,fun _=>?_⟩
   (repeat' (first|(with_reducible first|refine bf ?_|refine aN ?_|fail)|walk_at "n"|((with_reducible refine' c9 (by walk_at "ok") ?qa ?qc ?qd ?qe ?qb ?qf ?_);(case qa=>exact rfl);(case qb=>decide);(case qc=>k_is);(case qd=>decide);(case qe=>boot_by_name);(case qf=>exact ⟨fun ux=>rfl,fun ux=>rfl⟩))|walk_at "k"|fail))
   refine ER hh ?_
   (repeat' (first|with_reducible refine aN ?_|((with_reducible refine AY (by first|exact Fx.hh (by assumption)|assumption) ?_))|fail))
   exact ⟨⟨_,rfl⟩,AS.Kept.refl _⟩
  obtain ⟨vs',rfl,hvl'⟩:=kN hu
  rw [bS.mpr (fun ux ux=>rfl),aj] at hvl'
  (repeat' (first|(with_reducible first|refine a' ?_|refine aW ?_|fail)|fail))
  exact eE ⟨c,D,vs',by lia,by walk_at "lk",by walk_at "lk",by walk_at "lk",by walk_at "hp",by walk_at "sub"⟩
 ·exact eE ⟨c,r,vs,hvl,by walk_at "lk",by walk_at "lk",by walk_at "lk",by walk_at "hp",by walk_at "sub"⟩
theorem A5 (g:Fx af (hK w.params) cx sc (n+3)) {args:List Expr} {px:Pos} (hx:sc.names.lookup (aa "_law_in_turn")=some .globalImplicit) (hp:eB (aa "_law_in_turn") px args pos)
  (h:fN af w cx pos args σ (tV Q) E):bZ af w cx (.Call (.Name (aa "_law_in_turn") px) args [] pos) σ Q E:=by
 refine dz g.ok hx (by k_is) (by k_is) (by decide) hp (h.imp (fun l σ₁ qA=>?_) fun ux ux e=>e)
 obtain ⟨u,k,vs,d,hl,hu,hk,hv,hlen,ho,due,hq⟩:=qA
 subst hl
 refine (eO (ps:=[aa "_law_wants"]) g (ed (by k_is) (by k_is) (by k_is) (re rfl fun ux=>rfl) (by decide) rfl rfl rfl (by decide)) rfl fun cx g=>?_)
 have e6:aH=2 ^ 24:=rfl
 have hk6:=gI hk
 have hdl:d.length=vs.length:=by have:=ho.p.length_eq;rw [aj,dC] at this;exact this
 have hu':(σ₁.enter [aa "_law_wants"] [.ref u]).hp u=some (.list (vs.map AV.int)):=hu
 (repeat' (first|with_reducible refine av ?_|((with_reducible refine aT (by walk_at "ok") ?qa ?qb ?_);(case qa=>exact rfl);(case qb=>exact rfl))|((with_reducible refine' c9 (by walk_at "ok") ?qa ?qc ?qd ?qe ?qb ?qf ?_);(case qa=>exact rfl);(case qb=>decide);(case qc=>k_is);(case qd=>decide);(case qe=>boot_by_name);(case qf=>exact ⟨fun ux=>rfl,fun ux=>rfl⟩))|walk_at "k"|fail))
 refine lT g.ok g.hh ⟨rfl,by decide,by decide,by decide,by decide,rfl⟩ ?_ (fun ux=>rfl)
 (repeat' (first|with_reducible refine aN ?_|walk_at "n"|((with_reducible refine' c9 (by walk_at "ok") ?qa ?qc ?qd ?qe ?qb ?qf ?_);(case qa=>exact rfl);(case qb=>decide);(case qc=>k_is);(case qd=>decide);(case qe=>boot_by_name);(case qf=>exact ⟨fun ux=>rfl,fun ux=>rfl⟩))|((with_reducible refine' dQ (by walk_at "ok") ?qa ?qc ?qd ?qe ?qb ?qf ?_);(case qa=>exact rfl);(case qb=>decide);(case qc=>k_is);(case qd=>decide);(case qe=>boot_by_name);(case qf=>exact ⟨fun ux=>rfl,fun ux=>rfl⟩))|walk_at "k"|((with_reducible refine' iJ ?qa ?qb ?_);(case qa=>walk_at "lst");(case qb=>walk_at "num"))|((with_reducible refine gP (fun _ _=>?_)))|fail))
 rename_i ax hax
 rw [aj]
 refine ⟨_,fun ux=>true,ordF vs,jL aX (by lia) (by lia),by rw [aj,cC];lia,?_,fun D hD=>?_⟩
 ·intro i a D acc cx' ha hD ok hh
  obtain ⟨hi,rfl⟩:=jF ha
  refine ⟨i7 ⟨rfl,AS.Kept.refl _⟩,fun _=>?_⟩
  (repeat' (first|(with_reducible first|refine cG ?_|refine bf ?_|refine fU ?_|refine dc ?_|fail)|walk_at "n"|walk_at "k"|((with_reducible refine rA (by assumption) (by assumption) ?qa ?qb ?_);(case qa=>exact rfl);(case qb=>exact ⟨fun ux=>rfl,fun ux=>rfl⟩))|fail))
  refine jg (by walk_at "lst") (by lia) (by lia) (by lia) ?_ (by intro _ _;with_unfolding_all rfl)
  (repeat' (first|with_reducible refine aN ?_|fail))
  refine ⟨_,rfl,by have:=hv _ (mo (vs:=vs) (i:=(i:Int)) (by lia) (by lia));lia,?_⟩
  (repeat' (first|(with_reducible first|refine aN ?_|refine ja ?_|fail)|walk_at "n"|walk_at "k"|((with_reducible refine And.intro ?qa ?_);(case qa=>(show bM _≤aH;exact am rfl)))|fail))
  exact ⟨rfl,AS.Kept.refl _⟩
 rw [Az,show ((vs.length:Int)).toNat=vs.length by lia]
 (repeat' (first|with_reducible refine aN ?_|fail))
 refine l7 (by walk_at "lst") (by rw [aj,dC];lia) fun y ps hy hps hs=>?_
 have hms:=Ord.uniq (Ec hps hs) ho
 have hpe:=ps_eq hps
 rw [hms,bn] at hpe
 (repeat' (first|(with_reducible first|refine a' ?_|refine av ?_|fail)|fail))
 refine uc g.ok g.hh ⟨rfl,by decide,by decide,by decide,by decide,rfl⟩ rfl (iC g.ok rfl rfl (by decide)) ?_ (fun ux=>rfl)
 (repeat' (first|walk_at "n"|fail))
 refine ⟨_,fun ux=>true,fun ux=> .int 0,eS (by walk_at "lst"),by rw [aj];lia,?_,fun D2 hD2=>?_⟩
 ·intro i a D' acc cx' ha hD' ok hh
  refine ⟨i7 ⟨rfl,AS.Kept.refl _⟩,fun _=>?_⟩
  (repeat' (first|with_reducible refine bf ?_|fail))
  exact ⟨rfl,AS.Kept.refl _⟩
 rw [ya]
 (repeat' (first|(with_reducible first|refine a' ?_|refine av ?_|refine bf ?_|fail)|((with_reducible refine aT (by walk_at "ok") ?qa ?qb ?_);(case qa=>exact rfl);(case qb=>exact rfl))|fail))
 refine gG g rfl (fun ux=>rfl) ?_
 (repeat' (first|walk_at "n"|fail))
 subst hpe
 have hps':∀ i p,(d.map fun p=>sD vs p.1)[i]?=some p→∃ q:Int×Int,d[i]?=some q∧p=sD vs q.1:=fun i p hp=>by
  rw [aR] at hp
  obtain ⟨q,hq,rfl⟩:=bT.mp hp
  exact ⟨q,hq,rfl⟩
 have nD2:y≠D2:=dP hD2 aX
 have nD0:∀ a o,σ₁.hp a=some o→a≠D2:=fun a o e=>dP (o:=o) hD2 (by walk_at "hp")
 refine ⟨y,_,TnI σ₁ D2 y vs d,rfl,⟨by rw [iQ];walk_at "hp",by show _=some (AO.list (List.map eC (List.map (sD vs ∘ fun x=>x.1) d)));walk_at "hp",by walk_at "lk",by show _=some (AV.int 0);walk_at "lk",by walk_at "sub"⟩,fun i σ ⟨_,h,_,_,_⟩=>h,?_,?_⟩
 ·rintro i a σ cx g ha ⟨hD,hy,lp,lb,sub⟩
  obtain ⟨p,hp,rfl⟩:=jG ha
  obtain ⟨q,hq',rfl⟩:=hps' i p hp
  obtain ⟨hi,hqe⟩:=aF.mp hq'
  have hm:(d.map (·.1))[i]?=some q.1:=by rw [aR,hq'];rfl
  obtain ⟨hm0,hm1,hmn⟩:=oN (d:=d.take i) ho (by rw [List.map_take]) hm
  have hx:=(r8 ho due i (by lia)).next ho due hq'
  have hts:d.take (i+1)=d.take i++[(q.1,mw vs (d.take i))]:=by rw [cZ hi,hqe,← hx]
  (repeat' (first|(with_reducible first|refine av ?_|refine bf ?_|refine dc ?_|fail)|walk_at "n"|((with_reducible refine eP ?qa ?_);(case qa=>(intro env;rfl)))|((with_reducible refine lm ?_ ?qa);(case qa=>(intro _ _;with_unfolding_all rfl)))|fail))
  show Dk _ _ _ _ _ (.int q.1) _ _ _ _
  refine yW (by walk_at "hp") hm0 (by rw [aj,dC];exact hm1) (by rw [aj,dC];lia) ?_
  rw [Cg hmn hm0]
  (repeat' (first|(with_reducible first|refine a' ?_|refine aW ?_|refine av ?_|refine cG ?_|refine bf ?_|refine dc ?_|refine ja ?_|fail)|((with_reducible refine aT (by walk_at "ok") ?qa ?qb ?_);(case qa=>exact rfl);(case qb=>exact rfl))|walk_at "n"|((with_reducible refine io ?_ ?qa);(case qa=>(intro _ _;with_unfolding_all rfl)))|fail))
  refine ⟨by rw [hts];walk_at "hp",by walk_at "hp",by walk_at "lk",?_,fun a o e=>?_⟩
  ·rw [hts,ll]
   show _=some (AV.int (mw vs (d.take i)+2 ^ fe (iU vs q.1)))
   rw [show mw vs (d.take i)+2 ^ fe (iU vs q.1)=mw vs (d.take i) - (sD vs q.1).1 by unfold sD xh;lia]
   walk_at "lk"
  ·exact bH (nD0 a o e) (sub a o e)
 ·rintro σ ⟨hD,hy,lp,lb,sub⟩
  rw [cB (by rw [aj,aj];exact aU _)] at hD
  (repeat' (first|(with_reducible first|refine a' ?_|refine ch ?_|refine av ?_|refine cF ?_|fail)|walk_at "n"|fail))
  exact gt (hq D2 _ sub rfl hD)
theorem EW (g:Fx af (hK w.params) cx sc (n+3)) {args:List Expr} {px:Pos} (hx:sc.names.lookup (aa "_law_owners")=some .globalImplicit) (hp:eB (aa "_law_owners") px args pos)
  (h:fN af w cx pos args σ (BG (hK w.params) Q) E):bZ af w cx (.Call (.Name (aa "_law_owners") px) args [] pos) σ Q E:=by
 refine dz g.ok hx (by k_is) (by k_is) (by decide) hp (h.imp (fun l σ₁ qA=>?_) fun ux ux e=>e)
 obtain ⟨y,z,u,k,t,C,dx,S,H,sp,hd,hs,vs,hl,hY,hz,hu,hp,hvl,hq⟩:=qA
 subst hl
 obtain rfl:=ft hY.is.cls (by k_is)
 refine eT (ps:=[aa "_law_yard",aa "_law_held",aa "_law_cells",aa "_law_wants"]) g (ed (by k_is) (by k_is) (by k_is) (Cq rfl fun ux ux ux ux=>rfl) (by decide) rfl rfl rfl (by decide)) rfl fun cx g=>?_
 have e6:aH=2 ^ 24:=rfl
 have e1:=hY.is.y
 have e2:=hY.is.dx
 have hu':(σ₁.enter [aa "_law_yard",aa "_law_held",aa "_law_cells",aa "_law_wants"] [.ref y,.ref z,.int (2 ^ k),.ref u]).hp u=some (.list (vs.map AV.int)):=hu
 show cf _ _ _ (_::_) _ _ _
 refine av (gG g rfl (fun ux=>rfl) ?_)
 (repeat' (first|(with_reducible first|refine cG ?_|refine bf ?_|refine aN ?_|refine dO ?_|refine ja ?_|fail)|walk_at "n"|walk_at "k"|((with_reducible refine iu ?qa (fun _ _=>?_));(case qa=>exact am rfl))|((with_reducible refine v_div (by walk_at "ok") ?qa ?_);(case qa=>walk_at "pos"))|fail))
 refine iq (by walk_at "lst") (by walk_at "lst") (by rw [aj];simp only [bj,fR];lia) fun z9 hz9=>?_
 refine ⟨z9,_,fun i σ=>σ.hp z9=some (.list _)∧σ.loc (aa "_law_yard")=some (.ref y)∧σ.loc (aa "_law_held")=some (.ref z)∧σ₁.Sub σ,rfl,⟨aX,by walk_at "lk",by walk_at "lk",by walk_at "sub"⟩,fun i σ h=>h.1,?_,?_⟩
 ·rintro i a σ cx g ha ⟨h9,l1,l2,sub⟩
  obtain ⟨c,rfl⟩:∃ c:Int,a = .int c:=by
   rcases ay.mp (aE ha) with w|w
   ·simp only [aQ,gv,or_false] at w
    rcases w with rfl|rfl|rfl|rfl <;> exact ⟨_,rfl⟩
   ·obtain ⟨v,_,rfl⟩:=bx.mp w
    exact ⟨v,rfl⟩
  have f1:=sub _ _ e1
  have f2:=sub _ _ e2
  have fz:=sub _ _ hz
  (repeat' (first|(with_reducible first|refine av ?_|refine eF ?_|refine aN ?_|fail)|walk_at "n"|walk_at "k"|((with_reducible refine bI ?qa ?_);(case qa=>with_unfolding_all rfl))|((with_reducible refine' jk ?qa ?_);(case qa=>exact je.mk (by k_is) (by walk_at "hp") (by walk_at "hp")))|((with_reducible refine wU (by assumption) ?qa ?_);(case qa=>exact ⟨⟨_,fun ux=>rfl⟩,fun ux=>rfl⟩))|fail))
  refine ⟨c,rfl,k,t,_,dx,S,H,sp,hd,hY.sub (by walk_at "sub"),?_⟩
  (repeat' (first|with_reducible refine aN ?_|walk_at "n"|walk_at "k"|((with_reducible refine A9 (by assumption) ?qa ?qb ?_);(case qa=>exact rfl);(case qb=>exact ⟨fun ux=>rfl,fun ux=>rfl⟩))|fail))
  refine ⟨z,c,hs,rfl,by walk_at "hp",hY.rep.once.perm hp,?_⟩
  rw [xw hY.rep.once hp]
  cases e:q7 hd c with
  |none =>
   show de _ _ _ _ AV.none AV.none _ _ _
   refine kI g.ok (d:=.none) (e:=.none) rfl rfl rfl rfl (by show min 0 _≤100;lia) ?_
   rw [show (!PyData.eqv .none .none)=false from rfl]
   (repeat' (first|(with_reducible first|refine a' ?_|refine fn ?_|refine aW ?_|refine bN ?_|fail)|fail))
   exact ⟨by walk_at "hp",by walk_at "lk",by walk_at "lk",by walk_at "sub"⟩
  |some x =>
   show de _ _ _ _ (AV.int x) (AV.int x) _ _ _
   (repeat' (first|(with_reducible first|refine a' ?_|refine ch ?_|refine fn ?_|refine aW ?_|refine av ?_|refine cF ?_|refine jP ?_|refine kJ ?_|fail)|with_reducible refine iZ (fun _=>?_) (fun _=>?_)|fail))
   ·rename_i q;exact absurd rfl q
   ·exact ⟨by walk_at "hp",by walk_at "lk",by walk_at "lk",by walk_at "sub"⟩
 ·rintro σ ⟨h9,l1,l2,sub⟩
  (repeat' (first|(with_reducible first|refine a' ?_|refine ch ?_|refine av ?_|refine cF ?_|refine jP ?_|fail)|fail))
  exact ⟨sub,hq⟩
theorem Be (g:Fx af (hK w.params) cx sc (n+7)) {args:List Expr} {px:Pos} (hx:sc.names.lookup (aa "_law_behind")=some .globalImplicit) (hp:eB (aa "_law_behind") px args pos)
  (h:fN af w cx pos args σ (t7 (hK w.params) 98 (⟨40,48,40,88⟩:Pos) (aa "give_all"++".<locals>."++"<lambda>") Q) E):bZ af w cx (.Call (.Name (aa "_law_behind") px) args [] pos) σ Q E:=by
 refine dz g.ok hx (by k_is) (by k_is) (by decide) hp (h.imp (fun l σ₁ qA=>?_) fun ux ux e=>e)
 obtain ⟨y,r,z,k,t,C,dx,S,H,sp,hd,hs,ps,hl,hY,hr,hz,hrz,hp,hlen,hpl,ga,hq⟩:=qA
 subst hl
 obtain rfl:=ft hY.is.cls (by k_is)
 refine eO (ps:=[aa "_law_yard",aa "_law_places",aa "_law_held"]) g (ed (by k_is) (by k_is) (by k_is) (Cs rfl fun ux ux ux=>rfl) (by decide) rfl rfl rfl (by decide)) rfl fun cx g=>?_
 have e6:aH=2 ^ 24:=rfl
 have e1:=hY.is.y
 have e2:=hY.is.dx
 have hr':(σ₁.enter [aa "_law_yard",aa "_law_places",aa "_law_held"] [.ref y,.ref r,.ref z]).hp r=some (.list (ps.map AV.int)):=hr
 show cf _ _ _ (_::_::_) _ _ _
 refine yX (fun σ=>∃ kp,kp≠r∧Fv (hK w.params) 98 (⟨40,48,40,88⟩:Pos) (aa "give_all"++".<locals>."++"<lambda>") σ₁ y r z kp k dx S H hd hs ps σ) ?_ ?_
 ·rintro σ ⟨kp,nkr,hB⟩
  show cf _ _ _ (_::_) _ _ _
  refine pW (Fv (hK w.params) 98 (⟨40,48,40,88⟩:Pos) (aa "give_all"++".<locals>."++"<lambda>") σ₁ y r z kp k dx S H hd hs ps) ?_ ?_
  ·rintro σ ⟨C,t,sp,hY,fr,fz,fk,t1,t2,t3,t4,ga,but⟩
   obtain rfl:=ft hY.is.cls (by k_is)
   show cf _ _ _ (_::_) _ _ _
   refine pW (fun σ=>∃ hd',(hs.drop 1).Perm hd'∧Fv (hK w.params) 98 (⟨40,48,40,88⟩:Pos) (aa "give_all"++".<locals>."++"<lambda>") σ₁ y r z kp k dx S H hd' hs ps σ) ?_ ?_
   ·clear hB e1 e2 hr' hr hz hY fr fz fk t1 t2 t3 t4 ga but
    rintro σ ⟨hd',hp',C,t,sp,hY,fr,fz,fk,t1,t2,t3,t4,ga,but⟩
    obtain rfl:=ft hY.is.cls (by k_is)
    have f1:=hY.is.y
    have f2:=hY.is.dx
    have f3:=hY.sS
    have f4:=hY.sH
    (repeat' (first|with_reducible refine av ?_|walk_at "n"|((with_reducible refine gM (by walk_at "ok") ?qa ?_);(case qa=>(intro env;rfl)))|((with_reducible refine fq ?qa ?qb ?qc ?qd ?_);(case qa=>(intro env;rfl));(case qb=>(intro env;rfl));(case qc=>exact rfl);(case qd=>(intro env;rfl)))|fail))
    refine jJ fr ?_
    (repeat' (first|with_reducible refine aN ?_|fail))
    refine mW fr (by rw [aj];lia) ?_
    (repeat' (first|(with_reducible first|refine a' ?_|refine av ?_|refine cF ?_|fail)|walk_at "n"|((with_reducible refine sC ?qa ?_);(case qa=>with_unfolding_all rfl))|((with_reducible refine tA (by assumption) ?qa ?_);(case qa=>exact ⟨⟨_,fun ux=>rfl⟩,fun ux=>rfl⟩))|fail))
    refine kO ⟨⟨hY.is.cls,by walk_at "hp",by walk_at "hp"⟩,by walk_at "hp",by walk_at "hp",hY.ne,hY.rep,hY.cn,hY.k60,hY.len⟩ (fun u hu=>?_)
    (repeat' (first|(with_reducible first|refine oW ?_|refine bf ?_|fail)|walk_at "n"|((with_reducible refine' c9 (by walk_at "ok") ?qa ?qc ?qd ?qe ?qb ?qf ?_);(case qa=>exact rfl);(case qb=>decide);(case qc=>k_is);(case qd=>decide);(case qe=>boot_by_name);(case qf=>exact ⟨fun ux=>rfl,fun ux=>rfl⟩))|walk_at "k"|fail))
    refine ⟨z,hs.map eC,_,rfl,rfl,by walk_at "lst",by rw [aj];lia,fun v hv=>?_⟩
    rw [xv]
    (repeat' (first|with_reducible refine aN ?_|fail))
    refine l7 (by walk_at "lst") (by rw [bp];lia) (fun v9 ms9 hv9 hm9 hs9=>?_)
    obtain rfl:=hY.rep.srt hp' hm9 hs9
    (repeat' (first|with_reducible refine ch ?_|((with_reducible refine' pF (by walk_at "ok") ?qa ?qb ?_);(case qa=>walk_at "lst");(case qb=>walk_at "lst"))|fail))
    rw [AN]
    refine gt (hq _ rfl (fun a o n1 n2 n3 n4 e=>?_) ?_)
    ·have:=but a o n1 n2 n3 n4 e
     walk_at "hp"
    ·exact (ga.putL fr).sub ((((AS.Sub.refl _).put hu).put hv).put hv9)
   ·refine gG g rfl (fun ux=>rfl) ?_
    (repeat' (first|(with_reducible first|refine oX ?_|refine bf ?_|fail)|walk_at "n"|fail))
    refine ⟨z,hs.map eC,_,rfl,rfl,by walk_at "lst",by rw [aj];lia,fun ax hax=>?_⟩
    rw [xu]
    refine ⟨ax,_,BhJ (hK w.params) 98 (⟨40,48,40,88⟩:Pos) (aa "give_all"++".<locals>."++"<lambda>") σ₁ y r z kp ax k dx S H hs ps,rfl,⟨hd,hp,⟨_,t,sp,hY.sub (by walk_at "sub"),by walk_at "hp",by walk_at "hp",by walk_at "hp",by walk_at "lk",by walk_at "lk",by walk_at "lk",by walk_at "lk",ga.sub (by walk_at "sub"),fun a o n1 n2 n3 n4 e=>fJ hax (but a o n1 n2 n3 n4 e)⟩,aX⟩,fun i σ ⟨_,_,_,h⟩=>h,?_,?_⟩
    ·clear hB e1 e2 hr' hr hz hY fr fz fk t1 t2 t3 t4 ga but hax
     rintro i a σ cx g ha ⟨hd',hp',⟨C,t,sp,hY,fr,fz,fk,t1,t2,t3,t4,ga,but⟩,hax⟩
     obtain ⟨p,hpi,rfl⟩:=jG ha
     obtain ⟨rfl,Et⟩:=ul hpi
     obtain rfl:=ft hY.is.cls (by k_is)
     have hp0:(p::hs.drop 1).Perm hd':=by rw [← Et];exact hp'
     have hlen':hd'.length≤1000:=by have:=hp'.length_eq;rw [iS] at this;lia
     have hpm:p∈hd':=hp0.mem_iff.mp (.head _)
     obtain ⟨e,he,hsz,_⟩:=sk (hY.rep.hd.mem_iff.mp hpm)
     have hsp:0<p.2:=by have:=dI e;lia
     have hk0:=dI k
     have hgt:du hd' p.1=some p.2:=(cH hY.rep.khd).mpr hpm
     have f1:=hY.is.y
     have f2:=hY.is.dx
     have f3:=hY.sS
     have f4:=hY.sH
     (repeat' (first|(with_reducible first|refine av ?_|refine bf ?_|refine aN ?_|refine dc ?_|fail)|walk_at "n"|walk_at "k"|((with_reducible refine io ?_ ?qa);(case qa=>(intro _ _;with_unfolding_all rfl)))|((with_reducible refine gM (by walk_at "ok") ?qa ?_);(case qa=>(intro env;rfl)))|((with_reducible refine' jk ?qa ?_);(case qa=>exact je.mk (by k_is) (by walk_at "hp") (by walk_at "hp")))|((with_reducible refine rz (Fx.gx (by assumption)) (.inl (Fx.hh (by assumption))) ?qa ?_);(case qa=>exact ⟨⟨_,fun ux=>rfl⟩,fun ux=>rfl⟩))|fail))
     refine oP (hY.sub (by walk_at "sub")) (fun q=>absurd q (by rw [hgt];intro w;cases w)) (fun i2 s2 sp2 σ2 hx2 hik2 l2 b2 hY2=>?_)
     replace b2:σ.But S H σ2:=b2
     have fr2:=b2.at f3 f4 fr (by intro d q;cases q)
     have fz2:=b2.at f3 f4 fz (by intro d q;cases q)
     have fk2:=b2.at f3 f4 fk (by intro d q;cases q)
     have fa2:=b2.at f3 f4 hax (by intro d q;cases q)
     have ga2:=ga.but b2 f3 f4
     have but2:σ₁.But4 98 S H r σ2:=fun a o n1 n2 n3 n4 e=>b2 a o n2 n3 (but a o n1 n2 n3 n4 e)
     have hns:=uu hY2.rep hY2.cn hY.rep hY.cn (tD hp0 hY.rep.khd) hsp
     have hpb:=n9 hp0 hY.rep.khd
     have t12:σ2.loc (aa "_law_yard")=some (.ref y):=by rw [l2];walk_at "lk"
     have t22:σ2.loc (aa "_law_places")=some (.ref r):=by rw [l2];walk_at "lk"
     have t32:σ2.loc (aa "_law_held")=some (.ref z):=by rw [l2];walk_at "lk"
     have t42:σ2.loc (aa "_law_kept")=some (.ref kp):=by rw [l2];walk_at "lk"
     have g1:=hY2.is.y
     have g2:=hY2.is.dx
     have g3:=hY2.sS
     have g4:=hY2.sH
     have hdl:(dS hd' p.1).length≤1000:=aI kG hlen'
     clear b2 l2 fr fz fk hax t1 t2 t3 t4 f1 f2 f3 f4 but ga hY hgt
     (repeat' (first|(with_reducible first|refine a' ?_|refine av ?_|refine bf ?_|refine aN ?_|refine dO ?_|fail)|((with_reducible refine aT (by walk_at "ok") ?qa ?qb ?_);(case qa=>exact rfl);(case qb=>exact rfl))|walk_at "n"|walk_at "k"|((with_reducible refine iu ?qa (fun _ _=>?_));(case qa=>exact am rfl))|((with_reducible refine u5 (by assumption) ?qa ?qb ?_);(case qa=>exact rfl);(case qb=>exact ⟨fun ux=>rfl,fun ux=>rfl⟩))|fail))
     rename_i u0 hu0
     refine ⟨y,u0,k,s2,_,dx,S,H,sp2,dS hd' p.1,[1],rfl,hY2.sub (by walk_at "sub"),by show _=some (AO.list [AV.int 1]);walk_at "hp",by simp only [bB];lia,ga2.sub (by walk_at "sub"),fun st=>absurd st hns,fun ⟨v,hv,q⟩=>absurd q (by rw [aC.mp hv];decide),fun _ ⟨v,hv,q⟩=>absurd q (by rw [aC.mp hv];lia),fun ux st=>absurd st hns,fun _ d ho due σ3 r3 s3 sp3 l3 hY3 hr3 b3 ga3 nw3=>?_⟩
     obtain ⟨x,rfl⟩:=Ch ho
     rw [CB] at hY3
     replace hr3:σ3.hp r3=some (.list [.int x]):=hr3
     obtain ⟨pp,hP⟩:=ga2.at
     have up:∀ a o,σ2.hp a=some o→(∀ d,o ≠ .dict d)→(∀ T,o ≠ .any T)→σ3.hp a=some o:=fun a o e nd na=>b3 a o (be e hP (na _)) (be e g3 (nd _)) (be e g4 (nd _)) (fJ hu0 e)
     have fr3:=up _ _ fr2 (by intro d q;cases q) (by intro d q;cases q)
     have fz3:=up _ _ fz2 (by intro d q;cases q) (by intro d q;cases q)
     have fk3:=up _ _ fk2 (by intro d q;cases q) (by intro d q;cases q)
     have fa3:=up _ _ fa2 (by intro d q;cases q) (by intro d q;cases q)
     have but3:σ₁.But4 98 S H r σ3:=fun a o n1 n2 n3 n4 e=>b3 a o n1 n2 n3 (fJ hu0 (but2 a o n1 n2 n3 n4 e))
     have t13:σ3.loc (aa "_law_yard")=some (.ref y):=by rw [l3];walk_at "lk"
     have t23:σ3.loc (aa "_law_places")=some (.ref r):=by rw [l3];walk_at "lk"
     have t33:σ3.loc (aa "_law_held")=some (.ref z):=by rw [l3];walk_at "lk"
     have t43:σ3.loc (aa "_law_kept")=some (.ref kp):=by rw [l3];walk_at "lk"
     have hg3:du (dS hd' p.1++[(x,1)]) x=some 1:=(cH hY3.rep.khd).mpr (ay.mpr (.inr (.head _)))
     have m1:=hY3.is.y
     have m2:=hY3.is.dx
     have m3:=hY3.sS
     have m4:=hY3.sH
     clear up b3 nw3 l3 fr2 fz2 fk2 fa2 but2 ga2 hP t12 t22 t32 t42 g1 g2 g3 g4 hu0 hY2
     (repeat' (first|(with_reducible first|refine a' ?_|refine fn ?_|refine av ?_|refine eF ?_|refine aN ?_|refine vW ?_|refine eZ ?_|refine mK ?_|refine ite_neg ?_|refine cU ?_|fail)|walk_at "n"|((with_reducible refine' qQ (by walk_at "ok") ?qa ?qb ?qc ?qd ?qe ?_);(case qa=>exact rfl);(case qb=>decide);(case qc=>k_is);(case qd=>decide);(case qe=>boot_by_name))|((with_reducible refine' c9 (by walk_at "ok") ?qa ?qc ?qd ?qe ?qb ?qf ?_);(case qa=>exact rfl);(case qb=>decide);(case qc=>k_is);(case qd=>decide);(case qe=>boot_by_name);(case qf=>exact ⟨fun ux=>rfl,fun ux=>rfl⟩))|walk_at "k"|((with_reducible refine bI ?qa ?_);(case qa=>with_unfolding_all rfl))|((with_reducible refine' nX (by walk_at "ok") ?qx ?qa ?qb ?_);(case qx=>walk_at "lst");(case qa=>exact fun ux ux q=>q);(case qb=>kit_is))|((with_reducible refine rf ?qa ?_);(case qa=>(intro env;rfl)))|fail))
     refine iJ (l:=[.int x]) (.inl (by walk_at "hp")) (by simp only [bB];decide) ?_
     (repeat' (first|(with_reducible first|refine ch ?_|refine fn ?_|refine av ?_|refine cF ?_|refine bf ?_|refine jP ?_|refine mK ?_|refine kJ ?_|refine cU ?_|fail)|walk_at "n"|((with_reducible refine bI ?qa ?_);(case qa=>with_unfolding_all rfl))|with_reducible refine iZ (fun _=>?_) (fun _=>?_)|fail))
     any_goals (try (rename_i q;exact absurd rfl q))
     refine gc g.ok (by walk_at "lst") (by walk_at "lst") ?_
     (repeat' (first|(with_reducible first|refine a' ?_|refine fn ?_|refine aW ?_|refine av ?_|refine bf ?_|refine eQ ?_|refine dc ?_|refine bN ?_|fail)|walk_at "n"|walk_at "k"|((with_reducible refine gM (by walk_at "ok") ?qa ?_);(case qa=>(intro env;rfl)))|((with_reducible refine' jk ?qa ?_);(case qa=>exact je.mk (by k_is) (by walk_at "hp") (by walk_at "hp")))|((with_reducible refine rz (Fx.gx (by assumption)) (.inl (Fx.hh (by assumption))) ?qa ?_);(case qa=>exact ⟨⟨_,fun ux=>rfl⟩,fun ux=>rfl⟩))|fail))
     refine gH (by walk_at "lst") (by decide) (by decide) rfl ?_ (by intro _ _;with_unfolding_all rfl)
     (repeat' (first|with_reducible refine aN ?_|fail))
     refine oP (hY3.sub (by walk_at "sub")) (fun q=>absurd q (by rw [hg3];intro w;cases w)) (fun i4 s4 sp4 σ4 hx4 hik4 l4 b4 hY4=>?_)
     replace b4:σ3.But S H σ4:=b4
     rw [th (r:=[]) hY3.rep.khd,cA] at hY4
     have fr4:=b4.at m3 m4 fr3 (by intro d q;cases q)
     have fz4:=b4.at m3 m4 fz3 (by intro d q;cases q)
     have fk4:=b4.at m3 m4 fk3 (by intro d q;cases q)
     have fa4:=b4.at m3 m4 fa3 (by intro d q;cases q)
     have ga4:=ga3.but b4 m3 m4
     (repeat' (first|(with_reducible first|refine a' ?_|refine aW ?_|fail)|fail))
     exact ⟨dS hd' p.1,hpb,⟨_,s4,sp4,hY4.sub (by walk_at "sub"),by walk_at "hp",by walk_at "hp",by walk_at "hp",by walk_at "lk",by walk_at "lk",by walk_at "lk",by walk_at "lk",ga4.sub (by walk_at "sub"),fun a o n1 n2 n3 n4 e=>b4 a o n2 n3 (but3 a o n1 n2 n3 n4 e)⟩,by walk_at "hp"⟩
    ·rintro σ ⟨hd',hp',hB,_⟩
     rw [uW] at hp'
     exact eE ⟨hd',hp',hB⟩
  ·refine gG g rfl (fun ux=>rfl) ?_
   obtain ⟨C,t,sp,hY,fr,fz,fk,t1,t2,t3,t4,ga,but⟩:=id hB
   (repeat' (first|walk_at "n"|fail))
   refine ⟨z,hs.map eC,fun ux σ=>Fv (hK w.params) 98 (⟨40,48,40,88⟩:Pos) (aa "give_all"++".<locals>."++"<lambda>") σ₁ y r z kp k dx S H hd hs ps σ,rfl,hB,fun i σ ⟨_,_,_,_,_,h,_,_,_,_,_,_,_⟩=>h,?_,fun σ h=>eE h⟩
   rintro i a σ cx g ha ⟨C,t,sp,hY,fr,fz,fk,t1,t2,t3,t4,ga,but⟩
   obtain rfl:=ft hY.is.cls (by k_is)
   obtain ⟨p,hp',rfl⟩:=jG ha
   have hpm:=hp.mem_iff.mp (aE hp')
   have hpi:=cr t (hY.rep.hd.mem_iff.mp hpm)
   have f1:=hY.is.y
   have f2:=hY.is.dx
   (repeat' (first|(with_reducible first|refine av ?_|refine eF ?_|refine cG ?_|refine bf ?_|refine aN ?_|refine dc ?_|refine eI ?_|refine ja ?_|fail)|walk_at "n"|walk_at "k"|((with_reducible refine bI ?qa ?_);(case qa=>with_unfolding_all rfl))|((with_reducible refine io ?_ ?qa);(case qa=>(intro _ _;with_unfolding_all rfl)))|((with_reducible refine lm ?_ ?qa);(case qa=>(intro _ _;with_unfolding_all rfl)))|((with_reducible refine' jk ?qa ?_);(case qa=>exact je.mk (by k_is) (by walk_at "hp") (by walk_at "hp")))|((with_reducible refine wU (by assumption) ?qa ?_);(case qa=>exact ⟨⟨_,fun ux=>rfl⟩,fun ux=>rfl⟩))|fail))
   refine ⟨_,rfl,k,t,_,dx,S,H,sp,hd,hY.sub (by walk_at "sub"),?_⟩
   rw [kl hY.rep.once hpm (by unfold jj;simp only [decide_eq_true_eq];lia)]
   show Kb1 _ _ _ _ _ _ _ (AV.int p.1) _
   (repeat' (first|(with_reducible first|refine a' ?_|refine ch ?_|refine fn ?_|refine aW ?_|refine av ?_|refine cF ?_|refine bf ?_|refine jP ?_|refine dc ?_|refine kJ ?_|fail)|walk_at "n"|with_reducible refine iZ (fun _=>?_) (fun _=>?_)|((with_reducible refine io ?_ ?qa);(case qa=>(intro _ _;with_unfolding_all rfl)))|fail))
   any_goals (try (rename_i q;exact absurd rfl q))
   exact ⟨_,t,sp,hY.sub (by walk_at "sub"),by walk_at "hp",by walk_at "hp",by walk_at "hp",by walk_at "lk",by walk_at "lk",by walk_at "lk",by walk_at "lk",ga.sub (by walk_at "sub"),fun a o n1 n2 n3 n4 e=>but a o n1 n2 n3 n4 e⟩
 (repeat' (first|(with_reducible first|refine fw ?_|refine eF ?_|refine aN ?_|refine eZ ?_|refine mK ?_|refine dO ?_|fail)|((with_reducible refine aT (by walk_at "ok") ?qa ?qb ?_);(case qa=>exact rfl);(case qb=>exact rfl))|walk_at "n"|((with_reducible refine' dQ (by walk_at "ok") ?qa ?qc ?qd ?qe ?qb ?qf ?_);(case qa=>exact rfl);(case qb=>decide);(case qc=>k_is);(case qd=>decide);(case qe=>boot_by_name);(case qf=>exact ⟨fun ux=>rfl,fun ux=>rfl⟩))|walk_at "k"|((with_reducible refine bI ?qa ?_);(case qa=>with_unfolding_all rfl))|((with_reducible refine iu ?qa (fun _ _=>?_));(case qa=>exact am rfl))|((with_reducible refine' gu ?qa ?qb (fun _ _=>?_));(case qa=>walk_at "lst");(case qb=>walk_at "num"))|((with_reducible refine u5 (by assumption) ?qa ?qb ?_);(case qa=>exact rfl);(case qb=>exact ⟨fun ux=>rfl,fun ux=>rfl⟩))|fail))
 rename_i kp hkp u0 hu0
 refine ⟨y,u0,k,t,_,dx,S,H,sp,hd,[],rfl,hY.sub (by walk_at "sub"),by show _=some (AO.list []);walk_at "hp",by rw [← hp.length_eq];simp only [fR];lia,ga.sub (by walk_at "sub"),fun st=>absurd st pf,fun ⟨v,hv,_⟩=>(nomatch hv),fun _ ⟨v,hv,_⟩=>(nomatch hv),fun ux st=>absurd st pf,fun _ d ho due σ' r' t' sp' l' hY' hr0 b' ga' _=>?_⟩
 obtain rfl:d=[]:=gF (by have:=ho.p.length_eq;rw [aj,dC] at this;exact this)
 rw [show hd++ka [] []=hd from cA _] at hY'
 have hr0:σ'.hp r'=some (.list []):=hr0
 obtain ⟨pp,hP⟩:=ga.at
 have up:∀ a o,σ₁.hp a=some o→a≠98→a≠S→a≠H→σ'.hp a=some o:=fun a o e n1 n2 n3=>b' a o n1 n2 n3 (by walk_at "hp")
 have fr:=up r _ hr (be hr hP (by intro q;cases q)) (be hr hY.sS (by intro q;cases q)) (be hr hY.sH (by intro q;cases q))
 have fz:=up z _ hz (be hz hP (by intro q;cases q)) (be hz hY.sS (by intro q;cases q)) (be hz hY.sH (by intro q;cases q))
 have fk:σ'.hp kp=some (.list (ps.map AV.int)):=b' kp _ (bl (dP hkp hP)) (bl (dP hkp hY.sS)) (bl (dP hkp hY.sH)) (by walk_at "hp")
 have f1:=hY'.is.y
 have f2:=hY'.is.dx
 have t1:σ'.loc (aa "_law_yard")=some (.ref y):=by rw [l'];walk_at "lk"
 have t2:σ'.loc (aa "_law_places")=some (.ref r):=by rw [l'];walk_at "lk"
 have t3:σ'.loc (aa "_law_held")=some (.ref z):=by rw [l'];walk_at "lk"
 have t4:σ'.loc (aa "_law_kept")=some (.ref kp):=by rw [l'];walk_at "lk"
 (repeat' (first|(with_reducible first|refine aN ?_|refine dO ?_|fail)|((with_reducible refine iu ?qa (fun _ _=>?_));(case qa=>exact am rfl))|fail))
 refine rp (ns:=[]) g.ok (.inl (by show _=some (AO.list []);walk_at "hp")) (.inl aX) ?_
 rw [show (!decide (([]:List Int)=[]))=false from rfl]
 (repeat' (first|(with_reducible first|refine fn ?_|refine mK ?_|refine bN ?_|fail)|walk_at "n"|((with_reducible refine bI ?qa ?_);(case qa=>with_unfolding_all rfl))|fail))
 refine gc g.ok (by walk_at "lst") (by walk_at "lst") ?_
 (repeat' (first|(with_reducible first|refine fn ?_|refine mK ?_|refine bN ?_|fail)|walk_at "n"|((with_reducible refine bI ?qa ?_);(case qa=>with_unfolding_all rfl))|((with_reducible refine tA (by assumption) ?qa ?_);(case qa=>exact ⟨⟨_,fun ux=>rfl⟩,fun ux=>rfl⟩))|fail))
 refine kO (hY'.sub (by walk_at "sub")) (fun u9 hu9=>?_)
 (repeat' (first|with_reducible refine aN ?_|walk_at "n"|((with_reducible refine' c9 (by walk_at "ok") ?qa ?qc ?qd ?qe ?qb ?qf ?_);(case qa=>exact rfl);(case qb=>decide);(case qc=>k_is);(case qd=>decide);(case qe=>boot_by_name);(case qf=>exact ⟨fun ux=>rfl,fun ux=>rfl⟩))|walk_at "k"|fail))
 refine l7 (by walk_at "lst") (by lia) (fun v9 ms9 hv9 hm9 hs9=>?_)
 obtain rfl:=hY'.rep.srt hp hm9 hs9
 (repeat' (first|(with_reducible first|refine ch ?_|refine vV ?_|refine fn ?_|refine aW ?_|refine av ?_|refine cF ?_|refine jP ?_|refine eQ ?_|refine ite_neg ?_|refine cU ?_|refine bN ?_|fail)|with_reducible refine cz (fun _=>?_) (fun _=>?_)|((with_reducible refine' uZ (by walk_at "ok") ?qa ?qb ?_);(case qa=>walk_at "lst");(case qb=>walk_at "lst"))|fail))
 any_goals (try (rename_i q;exact absurd rfl q))
 refine eE ⟨kp,bl (dP hkp hr),_,t',sp',hY'.sub (by walk_at "sub"),by walk_at "hp",by walk_at "hp",by walk_at "hp",by walk_at "lk",by walk_at "lk",by walk_at "lk",by walk_at "lk",ga'.sub (by walk_at "sub"),fun a o n1 n2 n3 n4 e=>?_⟩
 have:=up a o e n1 n2 n3
 walk_at "hp"
end
section
variable {cx:CX} {sc:Scope} {n:Nat} {σ:AS} {Q:AV→AS→Prop} {QF:AF→AS→Prop} {E:Value→AS→Prop} {pos:Pos}
noncomputable def ifB':Option Stmt→List Stmt
 |some (.If _ b ..)=>b
 |_=>[]
theorem d11e (g:Fx af (hK w.params) cx pk 30) {k C y dx S H u r t sp hd hs vs d} (hp:hs.Perm hd) (hl:hd.length≤63) (hvl:vs.length≤300) (ho:Ord vs (d.map (·.1))) (h:DM (hK w.params) 98 (⟨40,48,40,88⟩:Pos) (aa "give_all"++".<locals>."++"<lambda>") k C y dx S H u r t sp hd hs vs d vs.length σ) :
  cf af w cx (po.drop 15) σ (fun f σ'=>f = .ret (.bool true)∧∃ ps,σ'.hp 98=some (.any (iV (i8 ps)))) (fun ux ux=>False):=by
 conv at g=>arg 4;whnf
 show cf _ _ _ (_::_) _ _ _
 obtain ⟨z,hY,⟨hz,hu,lc,ly,lh,lu,ld⟩,lt,hr,nr,ga⟩:=h
 obtain rfl:=ft hY.is.cls (by k_is)
 have e1:=hY.is.y
 have e2:=hY.is.dx
 have e3:=hY.sS
 have e4:=hY.sH
 have e6:aH=2 ^ 24:=rfl
 have hdl:d.length=vs.length:=by have:=ho.p.length_eq;rw [aj,dC] at this;exact this
 have hpp:=hp.append (y6 ho rfl)
 have hph:=hp.length_eq
 have lt1:(cI true 0 t).length≤2 ^ 21:=by rw [← hY.rep.hd.length_eq];have:=hY.len;lia
 have lt2:(cI false 0 t).length≤2 ^ 21:=by rw [← hY.rep.sp.length_eq];have:=hY.splen;lia
 have em:((upTo vs.length).map fun i=>AV.int (iY d i))=((upTo vs.length).map (iY d)).map AV.int:=by rw [bn];rfl
 rw [em] at hr
 obtain ⟨pp,hP⟩:=ga.at
 (repeat' (first|(with_reducible first|refine av ?_|refine dO ?_|fail)|((with_reducible refine aT (by walk_at "ok") ?qa ?qb ?_);(case qa=>exact rfl);(case qb=>exact rfl))|walk_at "n"|walk_at "k"|((with_reducible refine tA (by assumption) ?qa ?_);(case qa=>exact ⟨⟨_,fun ux=>rfl⟩,fun ux=>rfl⟩))|fail))
 refine kO (hY.sub (by walk_at "sub")) (fun m1 hm1=>?_)
 (repeat' (first|walk_at "n"|walk_at "k"|((with_reducible refine u6 (by assumption) ?qa ?_);(case qa=>exact ⟨⟨_,fun ux=>rfl⟩,fun ux=>rfl⟩))|fail))
 refine kO (hY.sub (by walk_at "sub")) (fun m2 hm2=>?_)
 (repeat' (first|(with_reducible first|refine a' ?_|refine av ?_|refine bf ?_|refine aN ?_|refine dO ?_|refine dc ?_|fail)|((with_reducible refine aT (by walk_at "ok") ?qa ?qb ?_);(case qa=>exact rfl);(case qb=>exact rfl))|walk_at "n"|((with_reducible refine' dQ (by walk_at "ok") ?qa ?qc ?qd ?qe ?qb ?qf ?_);(case qa=>exact rfl);(case qb=>decide);(case qc=>k_is);(case qd=>decide);(case qe=>boot_by_name);(case qf=>exact ⟨fun ux=>rfl,fun ux=>rfl⟩))|walk_at "k"|((with_reducible refine iu ?qa (fun _ _=>?_));(case qa=>exact am rfl))|fail))
 rename_i mm hmm
 refine gH (by walk_at "lst") (by decide) (by decide) rfl ?_ (by intro _ _;with_unfolding_all rfl)
 (repeat' (first|(with_reducible first|refine bf ?_|refine aN ?_|refine dc ?_|fail)|walk_at "n"|((with_reducible refine' dQ (by walk_at "ok") ?qa ?qc ?qd ?qe ?qb ?qf ?_);(case qa=>exact rfl);(case qb=>decide);(case qc=>k_is);(case qd=>decide);(case qe=>boot_by_name);(case qf=>exact ⟨fun ux=>rfl,fun ux=>rfl⟩))|walk_at "k"|((with_reducible refine' gu ?qa ?qb (fun _ _=>?_));(case qa=>walk_at "lst");(case qb=>walk_at "num"))|fail))
 rename_i c1 hc1
 refine gH (by walk_at "lst") (by decide) (by decide) rfl ?_ (by intro _ _;with_unfolding_all rfl)
 (repeat' (first|(with_reducible first|refine a' ?_|refine av ?_|refine cF ?_|refine bf ?_|refine aN ?_|refine uE ?_|refine dc ?_|fail)|walk_at "n"|walk_at "k"|((with_reducible refine iu ?qa (fun _ _=>?_));(case qa=>exact am rfl))|((with_reducible refine' gu ?qa ?qb (fun _ _=>?_));(case qa=>walk_at "lst");(case qb=>walk_at "num"))|((with_reducible refine oH ?_ ?qa);(case qa=>(intro _ _;with_unfolding_all rfl)))|((with_reducible refine Be (by assumption) ?qa ?qb ?_);(case qa=>exact rfl);(case qb=>exact ⟨fun ux=>rfl,fun ux=>rfl⟩))|fail))
 rename_i c2 hc2 cc hcc
 refine ⟨y,r,z,k,t,_,dx,S,H,sp,hd++ka vs d,_,(upTo vs.length).map (iY d),rfl,hY.sub (by walk_at "sub"),by walk_at "hp",by walk_at "hp",bl nr,hpp,?_,by rw [aj,dC];lia,ga.sub (by walk_at "sub"),fun σ' l' b' ga'=>?_⟩
 ·rw [au,aj,dC]
  lia
 have up:∀ a l,a≠r→_=some (AO.list l)→σ'.hp a=some (AO.list l):=fun a l q e=>b' a (.list l) (be (o':=.any (iV (i8 pp))) e (by walk_at "hp") (by intro q;cases q)) (be (o':=.dict sp) e (by walk_at "hp") (by intro q;cases q)) (be (o':=.dict (hd++ka vs d)) e (by walk_at "hp") (by intro q;cases q)) q e
 have q1:r≠m1:=dP hm1 hr
 have q2:r≠m2:=dP (o:=.list (((upTo vs.length).map (iY d)).map AV.int)) hm2 (by walk_at "hp")
 have q3:r≠mm:=dP (o:=.list (((upTo vs.length).map (iY d)).map AV.int)) hmm (by walk_at "hp")
 have q4:r≠c1:=dP (o:=.list (((upTo vs.length).map (iY d)).map AV.int)) hc1 (by walk_at "hp")
 have q5:r≠c2:=dP (o:=.list (((upTo vs.length).map (iY d)).map AV.int)) hc2 (by walk_at "hp")
 have q6:r≠cc:=dP (o:=.list (((upTo vs.length).map (iY d)).map AV.int)) hcc (by walk_at "hp")
 have k1:σ'.hp m1=some (.list ((cI true 0 t).map eC)):=up _ _ q1.symm (by walk_at "hp")
 have k2:σ'.hp m2=some (.list ((cI false 0 t).map eC)):=up _ _ q2.symm (by walk_at "hp")
 have k3:σ'.hp mm=some (.list [.ref m1,.ref m2]):=up _ _ q3.symm (by walk_at "hp")
 have k4:σ'.hp c1=some (.list ((cI true 0 t).map eC)):=up _ _ q4.symm (by walk_at "hp")
 have k5:σ'.hp c2=some (.list ((cI false 0 t).map eC)):=up _ _ q5.symm (by walk_at "hp")
 have k6:σ'.hp cc=some (.list [.ref c1,.ref c2]):=up _ _ q6.symm (by walk_at "hp")
 (repeat' (first|(with_reducible first|refine fn ?_|refine uU ?_|refine cU ?_|fail)|walk_at "n"|((with_reducible refine sC ?qa ?_);(case qa=>with_unfolding_all rfl))|fail))
 refine pE g.ok (.inl k3) (.inl k6) (.inl k1) (.inl k2) (.inl k4) (.inl k5) ?_
 (repeat' (first|with_reducible refine ch ?_|fail))
 exact ⟨rfl,ga'.at⟩
theorem d11k (g:Fx af (hK w.params) cx pk 30) {k C y dx S H u r t sp hd hs vs d} {i:Nat} (hi:i<vs.length) (hv:∀ v∈vs,1≤v∧v≤2 ^ k) (hvl:vs.length≤300) (hsl:hs.length≤63) (h:DM (hK w.params) 98 (⟨40,48,40,88⟩:Pos) (aa "give_all"++".<locals>."++"<lambda>") k C y dx S H u r t sp hd hs vs d i σ) :
  cf af w cx (forB po[14]?) (σ.set (aa "_law_k") (.int i)) (rI (DM (hK w.params) 98 (⟨40,48,40,88⟩:Pos) (aa "give_all"++".<locals>."++"<lambda>") k C y dx S H u r t sp hd hs vs d (i+1)) QF) E:=by
 conv at g=>arg 4;whnf
 show cf _ _ _ (_::_::_) _ _ _
 obtain ⟨z,hY,⟨hz,hu,lc,ly,lh,lu,ld⟩,lt,hr,nr,ga⟩:=h
 have e6:aH=2 ^ 24:=rfl
 have h60:=gI hY.k60
 have hvi:=hv _ (mo (vs:=vs) (i:=(i:Int)) (by lia) (by lia))
 (repeat' (first|(with_reducible first|refine av ?_|refine eF ?_|refine bf ?_|refine vW ?_|refine dc ?_|fail)|walk_at "n"|walk_at "k"|((with_reducible refine oH ?_ ?qa);(case qa=>(intro _ _;with_unfolding_all rfl)))|((with_reducible refine Da (by assumption) ?qa ?qb ?_);(case qa=>exact rfl);(case qb=>exact ⟨fun ux=>rfl,fun ux=>rfl⟩))|((with_reducible refine rf ?qa ?_);(case qa=>(intro env;rfl)))|fail))
 refine vL (n:=vs.length) (.inl (by walk_at "hp")) (by lia) (by lia) (by lia) ?_ (by intro _ _;with_unfolding_all rfl)
 (repeat' (first|(with_reducible first|refine a' ?_|refine fn ?_|refine aW ?_|refine av ?_|refine cG ?_|refine bf ?_|refine aN ?_|refine fU ?_|refine dO ?_|refine dc ?_|refine ite_neg ?_|refine cU ?_|fail)|((with_reducible refine aT (by walk_at "ok") ?qa ?qb ?_);(case qa=>exact rfl);(case qb=>exact rfl))|walk_at "n"|walk_at "k"|((with_reducible refine oH ?_ ?qa);(case qa=>(intro _ _;with_unfolding_all rfl)))|(with_reducible refine Dj ?_)|fail))
 refine vL (n:=vs.length) (.inl (by walk_at "hp")) (by lia) (by lia) (by lia) ?_ (by intro _ _;with_unfolding_all rfl)
 (repeat' (first|with_reducible refine dc ?_|walk_at "n"|walk_at "k"|((with_reducible refine Ba (by assumption) ?qa ?qb ?_);(case qa=>exact rfl);(case qb=>exact ⟨fun ux=>rfl,fun ux=>rfl⟩))|fail))
 refine jg (by walk_at "lst") (by lia) (by lia) (by lia) ?_ (by intro _ _;with_unfolding_all rfl)
 (repeat' (first|with_reducible refine aN ?_|fail))
 refine ⟨_,rfl,by lia,?_⟩
 (repeat' (first|with_reducible refine aN ?_|((with_reducible refine iu ?qa (fun _ _=>?_));(case qa=>exact am rfl))|((with_reducible refine And.intro ?qa ?_);(case qa=>(show bM _≤aH;exact am rfl)))|fail))
 refine iq (by walk_at "lst") (by walk_at "lst") (by simp only [aj,au,bB,dC];lia) fun z' hz'=>?_
 (repeat' (first|(with_reducible first|refine a' ?_|refine aW ?_|fail)|fail))
 refine ⟨z',hY.sub (by walk_at "sub"),⟨?_,by walk_at "hp",by walk_at "lk",by walk_at "lk",by walk_at "lk",by walk_at "lk",by walk_at "lk"⟩,by walk_at "lk",by walk_at "hp",bl (dP (o:=.list ((upTo vs.length).map fun i=>AV.int (iY d i))) hz' (by walk_at "hp")),ga.sub (by walk_at "sub")⟩
 rw [y5]
 exact aX
theorem d11d (g:Fx af (hK w.params) cx pk 30) {k C y dx S H u r t sp hd hs vs d} (hp:hs.Perm hd) (hl:hd.length≤63) (hvl:vs.length≤300) (hv:∀ v∈vs,1≤v∧v≤2 ^ k) (ho:Ord vs (d.map (·.1))) (h:DM (hK w.params) 98 (⟨40,48,40,88⟩:Pos) (aa "give_all"++".<locals>."++"<lambda>") k C y dx S H u r t sp hd hs vs d 0 σ) :
  cf af w cx (po.drop 14) σ (fun f σ'=>f = .ret (.bool true)∧∃ ps,σ'.hp 98=some (.any (iV (i8 ps)))) (fun ux ux=>False):=by
 have g':=g
 conv at g=>arg 4;whnf
 show cf _ _ _ (_::_) _ _ _
 refine pW (DM (hK w.params) 98 (⟨40,48,40,88⟩:Pos) (aa "give_all"++".<locals>."++"<lambda>") k C y dx S H u r t sp hd hs vs d vs.length) (fun σ' h=>d11e g' hp hl hvl ho h) ?_
 clear g'
 obtain ⟨z,hY,⟨hz,hu,lc,ly,lh,lu,ld⟩,lt,hr,nr,ga⟩:=id h
 have e6:aH=2 ^ 24:=rfl
 have hph:=hp.length_eq
 refine vD g rfl (fun ux=>rfl) ?_
 (repeat' (first|with_reducible refine aN ?_|walk_at "n"|((with_reducible refine' c9 (by walk_at "ok") ?qa ?qc ?qd ?qe ?qb ?qf ?_);(case qa=>exact rfl);(case qb=>decide);(case qc=>k_is);(case qd=>decide);(case qe=>boot_by_name);(case qf=>exact ⟨fun ux=>rfl,fun ux=>rfl⟩))|((with_reducible refine' dQ (by walk_at "ok") ?qa ?qc ?qd ?qe ?qb ?qf ?_);(case qa=>exact rfl);(case qb=>decide);(case qc=>k_is);(case qd=>decide);(case qe=>boot_by_name);(case qf=>exact ⟨fun ux=>rfl,fun ux=>rfl⟩))|walk_at "k"|((with_reducible refine' iJ ?qa ?qb ?_);(case qa=>walk_at "lst");(case qb=>walk_at "num"))|((with_reducible refine gP (fun _ _=>?_)))|fail))
 rename_i ax hax
 rw [aj]
 refine ⟨ax,0,vs.length,fun i σ=>DM (hK w.params) 98 (⟨40,48,40,88⟩:Pos) (aa "give_all"++".<locals>."++"<lambda>") k C y dx S H u r t sp hd hs vs d i σ,rfl,aX,by lia,by lia,by lia,⟨z,hY.sub (by walk_at "sub"),⟨by walk_at "hp",by walk_at "hp",by walk_at "lk",by walk_at "lk",by walk_at "lk",by walk_at "lk",by walk_at "lk"⟩,by walk_at "lk",by walk_at "hp",nr,ga.sub (by walk_at "sub")⟩,?_,?_⟩
 ·intro i σ cx g hi h
  rw [Int.zero_add]
  exact d11k g (by lia) hv hvl (by lia) h
 ·intro σ h
  rw [show ((vs.length:Int) - 0).toNat=vs.length by lia] at h
  exact eE h
theorem d11c (g:Fx af (hK w.params) cx pk 30) (h:G11 (hK w.params) 98 (⟨40,48,40,88⟩:Pos) (aa "give_all"++".<locals>."++"<lambda>") σ):cf af w cx (po.drop 11) σ (fun f σ'=>f = .ret (.bool true)∧∃ ps,σ'.hp 98=some (.any (iV (i8 ps)))) (fun ux ux=>False):=by
 have g':=g
 conv at g=>arg 4;whnf
 show cf _ _ _ (_::_::_::_) _ _ _
 obtain ⟨k,C,y,dx,S,H,z,u,r,t,sp,hd,hs,vs,d,hY,hp,hl,hvl,hv,ho,due,nm,lt,hr,nr,ga⟩:=h
 refine Ea (DM (hK w.params) 98 (⟨40,48,40,88⟩:Pos) (aa "give_all"++".<locals>."++"<lambda>") k C y dx S H u r t sp hd hs vs d 0) (fun σ' h=>d11d g' hp hl hvl hv ho h) ?_
 clear g'
 obtain ⟨hz,hu,lc,ly,lh,lu,ld⟩:=id nm
 have e6:aH=2 ^ 24:=rfl
 have hph:=hp.length_eq
 have hul:(upTo vs.length).length=vs.length:=dC
 (repeat' (first|(with_reducible first|refine ch ?_|refine fw ?_|refine vV ?_|refine fn ?_|refine aW ?_|refine av ?_|refine eF ?_|refine cF ?_|refine bf ?_|refine jP ?_|refine dR ?_|refine aN ?_|refine vW ?_|refine eZ ?_|refine eQ ?_|refine qt ?_|refine mK ?_|refine dO ?_|refine dc ?_|refine kJ ?_|refine ite_neg ?_|refine cU ?_|refine bN ?_|refine jM ?_|fail)|walk_at "n"|((with_reducible refine' qQ (by walk_at "ok") ?qa ?qb ?qc ?qd ?qe ?_);(case qa=>exact rfl);(case qb=>decide);(case qc=>k_is);(case qd=>decide);(case qe=>boot_by_name))|((with_reducible refine' c9 (by walk_at "ok") ?qa ?qc ?qd ?qe ?qb ?qf ?_);(case qa=>exact rfl);(case qb=>decide);(case qc=>k_is);(case qd=>decide);(case qe=>boot_by_name);(case qf=>exact ⟨fun ux=>rfl,fun ux=>rfl⟩))|walk_at "k"|((with_reducible refine bI ?qa ?_);(case qa=>with_unfolding_all rfl))|((with_reducible refine iu ?qa (fun _ _=>?_));(case qa=>exact am rfl))|with_reducible refine cz (fun _=>?_) (fun _=>?_)|with_reducible refine iZ (fun _=>?_) (fun _=>?_)|((with_reducible refine' iJ ?qa ?qb ?_);(case qa=>walk_at "lst");(case qb=>walk_at "num"))|((with_reducible refine' i0 (by walk_at "ok") ?qa ?qb ?_);(case qa=>walk_at "lst");(case qb=>walk_at "lst"))|((with_reducible refine' gN (by walk_at "ok") ?qa ?qb ?_);(case qa=>first|exact rfl|decide|decide +kernel);(case qb=>first|exact rfl|decide|decide +kernel))|((with_reducible refine oH ?_ ?qa);(case qa=>(intro _ _;with_unfolding_all rfl)))|((with_reducible refine' nX (by walk_at "ok") ?qx ?qa ?qb ?_);(case qx=>walk_at "lst");(case qa=>exact fun ux ux q=>q);(case qb=>kit_is))|((with_reducible refine A5 (by assumption) ?qa ?qb ?_);(case qa=>exact rfl);(case qb=>exact ⟨fun ux=>rfl,fun ux=>rfl⟩))|((with_reducible refine rf ?qa ?_);(case qa=>(intro env;rfl)))|fail))
 ·rename_i q
  exact absurd (by rw [aj,aj,dC]) q
 ·rename_i q
  subst q
  obtain rfl:hd=[]:=List.nil_perm.mp hp
  refine ⟨u,k,vs,d,rfl,by walk_at "hp",hY.k60,hv,hvl,ho,due,fun r2 σ2 s2 l2 hr2=>?_⟩
  have em:((upTo vs.length).map fun i=>AV.int (iY d i))=((upTo vs.length).map (iY d)).map AV.int:=by rw [bn];rfl
  have s3:σ.Sub σ2:=fun a o e=>s2 a o (by walk_at "hp")
  have hr':=s3 _ _ hr
  rw [em] at hr' hr2
  refine gc g.ok (ns:=(upTo vs.length).map (iY d)) (.inl hr') (.inl hr2) ?_
  (repeat' (first|(with_reducible first|refine fn ?_|refine aW ?_|refine bN ?_|fail)|fail))
  refine eE ⟨z,hY.sub s3,?_,by walk_at "lk",by rw [em];exact hr',nr,ga.sub s3⟩
  rw [show ([]:List (Int×Int))++(upTo 0).map (fun i=>(iY d i,(2:Int) ^ fe (iU vs i)))=[] from rfl]
  exact nm.sub s3 (by rw [l2];rfl)
 ·refine eE ⟨z,hY.sub (by walk_at "sub"),?_,by walk_at "lk",by walk_at "hp",nr,ga.sub (by walk_at "sub")⟩
  rw [show hs++(upTo 0).map (fun i=>(iY d i,(2:Int) ^ fe (iU vs i)))=hs from cA _]
  exact nm.sub (by walk_at "sub") rfl
theorem d11f (g:Fx af (hK w.params) cx pk 30) (h:F11 (hK w.params) 98 (⟨40,48,40,88⟩:Pos) (aa "give_all"++".<locals>."++"<lambda>") σ):cf af w cx (po.drop 11) σ (fun f σ'=>f = .ret (.bool true)∧∃ ps,σ'.hp 98=some (.any (iV (i8 ps)))) (fun ux ux=>False):=by
 conv at g=>arg 4;whnf
 show cf _ _ _ (_::_) _ _ _
 obtain ⟨k,C,y,dx,S,H,z,u,b,b1,b2,t,sp,hd,hs,vs,s,hY,hp,hl,hvl,Et,⟨hz,hu,lc,ly,lh,lu,ld⟩,⟨lb,hb,h1,h2⟩,ga⟩:=h
 obtain rfl:=ft hY.is.cls (by k_is)
 have e6:aH=2 ^ 24:=rfl
 have e1:=hY.is.y
 have e2:=hY.is.dx
 refine av (x_ifb (fun σ'=>σ'=σ) (fun ux=>False) (fun σ' h=>?_) (fun σ' h=>h.elim) ?_)
 ·subst h
  show cf _ _ _ (_::_) _ _ _
  (repeat' (first|(with_reducible first|refine av ?_|refine cF ?_|refine uE ?_|refine dO ?_|fail)|walk_at "n"|walk_at "k"|((with_reducible refine sC ?qa ?_);(case qa=>with_unfolding_all rfl))|((with_reducible refine tA (by assumption) ?qa ?_);(case qa=>exact ⟨⟨_,fun ux=>rfl⟩,fun ux=>rfl⟩))|fail))
  refine kO (hY.sub (by walk_at "sub")) (fun m1 hm1=>?_)
  (repeat' (first|walk_at "n"|walk_at "k"|((with_reducible refine u6 (by assumption) ?qa ?_);(case qa=>exact ⟨⟨_,fun ux=>rfl⟩,fun ux=>rfl⟩))|fail))
  refine kO (hY.sub (by walk_at "sub")) (fun m2 hm2=>?_)
  (repeat' (first|with_reducible refine aN ?_|walk_at "n"|((with_reducible refine iu ?qa (fun _ _=>?_));(case qa=>exact am rfl))|fail))
  refine pE (p:=cI true 0 t) (q:=cI false 0 t) g.ok (by walk_at "lst") (by walk_at "lst") (by walk_at "lst") (by walk_at "lst") (by walk_at "lst") (by walk_at "lst") ?_
  (repeat' (first|(with_reducible first|refine fn ?_|refine aN ?_|refine uU ?_|refine cU ?_|fail)|walk_at "n"|walk_at "k"|((with_reducible refine EW (by assumption) ?qa ?qb ?_);(case qa=>exact rfl);(case qb=>exact ⟨fun ux=>rfl,fun ux=>rfl⟩))|fail))
  refine ⟨y,z,u,k,t,_,dx,S,H,sp,hd,hs,vs,rfl,hY.sub (by walk_at "sub"),by walk_at "hp",by walk_at "hp",hp,hvl,?_⟩
  (repeat' (first|with_reducible refine ch ?_|fail))
  exact ⟨rfl,(ga.sub (by walk_at "sub")).at⟩
 ·rcases Et with rfl|rfl
  ·(repeat' (first|(with_reducible first|refine fn ?_|refine dR ?_|refine ite_neg ?_|fail)|walk_at "n"|((with_reducible refine bI ?qa ?_);(case qa=>with_unfolding_all rfl))|((with_reducible refine' gN (by walk_at "ok") ?qa ?qb ?_);(case qa=>first|exact rfl|decide|decide +kernel);(case qb=>first|exact rfl|decide|decide +kernel))|((with_reducible refine pt ?qa ?_);(case qa=>decide))|fail))
   exact rfl
  ·(repeat' (first|(with_reducible first|refine fn ?_|refine dR ?_|refine ite_neg ?_|fail)|walk_at "n"|((with_reducible refine bI ?qa ?_);(case qa=>with_unfolding_all rfl))|((with_reducible refine' gN (by walk_at "ok") ?qa ?qb ?_);(case qa=>first|exact rfl|decide|decide +kernel);(case qb=>first|exact rfl|decide|decide +kernel))|((with_reducible refine pt ?qa ?_);(case qa=>decide))|fail))
   exact rfl
theorem d11b (g:Fx af (hK w.params) cx pk 30) (h:X11 (hK w.params) 98 (⟨40,48,40,88⟩:Pos) (aa "give_all"++".<locals>."++"<lambda>") σ):cf af w cx (po.drop 8) σ (fun f σ'=>f = .ret (.bool true)∧∃ ps,σ'.hp 98=some (.any (iV (i8 ps)))) (fun ux ux=>False):=by
 have g':=g
 conv at g=>arg 4;whnf
 show cf _ _ _ (_::_::_::_) _ _ _
 refine Ea (fun σ=>F11 (hK w.params) 98 (⟨40,48,40,88⟩:Pos) (aa "give_all"++".<locals>."++"<lambda>") σ∨G11 (hK w.params) 98 (⟨40,48,40,88⟩:Pos) (aa "give_all"++".<locals>."++"<lambda>") σ) (fun σ' h=>h.elim (d11f g') (d11c g')) ?_
 clear g'
 obtain ⟨k,C,y,dx,S,H,z,u,b,b1,b2,v,t,sp,hd,hs,vs,s,hY,hp,hl,hvl,due,⟨hz,hu,lc,ly,lh,lu,ld⟩,⟨lb,hb,h1,h2⟩,lv,hv,n1,n2,n3,n4,n5,ga⟩:=h
 obtain rfl:=ft hY.is.cls (by k_is)
 have e6:aH=2 ^ 24:=rfl
 have e1:=hY.is.y
 have e2:=hY.is.dx
 have e3:=hY.sS
 have e4:=hY.sH
 obtain ⟨pp,hP⟩:=ga.at
 (repeat' (first|with_reducible refine aN ?_|((with_reducible refine aT (by walk_at "ok") ?qa ?qb ?_);(case qa=>exact rfl);(case qb=>exact rfl))|walk_at "n"|walk_at "k"|((with_reducible refine A6 (by assumption) ?qa ?qb ?_);(case qa=>exact rfl);(case qb=>exact ⟨fun ux=>rfl,fun ux=>rfl⟩))|fail))
 refine ⟨y,v,k,t,_,dx,S,H,sp,hd,vs,rfl,hY.sub (by walk_at "sub"),by walk_at "hp",by lia,ga.sub (by walk_at "sub"),fun q σ' r s' l' hr=>?_,fun q σ' r sp' l' hY' b' ga' hr=>?_,fun q d ho due' σ' r t' sp' l' hY' hr b' ga' nw=>?_⟩
 ·obtain rfl:=due.isWish q
  replace s':σ.Sub σ':=s'
  have hY':=hY.sub s'
  have ga':=ga.sub s'
  have fz:=s' _ _ hz
  have fu:=s' _ _ hu
  have fb:=s' _ _ hb
  have f1:=s' _ _ h1
  have f2:=s' _ _ h2
  have fv:=s' _ _ hv
  have m1:=hY'.is.y
  have m2:=hY'.is.dx
  have m3:=hY'.sS
  have m4:=hY'.sH
  clear s' hz hu hb h1 h2 hv e1 e2 e3 e4 hP
  (repeat' (first|(with_reducible first|refine fw ?_|refine fn ?_|refine eF ?_|refine bf ?_|refine eZ ?_|refine mK ?_|refine dc ?_|refine ite_neg ?_|refine jM ?_|fail)|walk_at "n"|((with_reducible refine bI ?qa ?_);(case qa=>with_unfolding_all rfl))|((with_reducible refine' gN (by walk_at "ok") ?qa ?qb ?_);(case qa=>first|exact rfl|decide|decide +kernel);(case qb=>first|exact rfl|decide|decide +kernel))|((with_reducible refine qT ?_ ?qa);(case qa=>(intro _ _;with_unfolding_all rfl)))|fail))
  refine gc g.ok (by walk_at "lst") (by walk_at "lst") ?_
  (repeat' (first|(with_reducible first|refine fw ?_|refine fn ?_|refine aW ?_|refine eQ ?_|refine bN ?_|fail)|walk_at "n"|((with_reducible refine gM (by walk_at "ok") ?qa ?_);(case qa=>(intro env;rfl)))|((with_reducible refine fq ?qa ?qb ?qc ?qd ?_);(case qa=>(intro env;rfl));(case qb=>(intro env;rfl));(case qc=>exact rfl);(case qd=>(intro env;rfl)))|fail))
  refine jJ (by walk_at "hp") ?_
  (repeat' (first|with_reducible refine aN ?_|fail))
  refine mW (by walk_at "hp") (by rw [aj];lia) ?_
  (repeat' (first|fail))
  exact eE (.inl ⟨k,_,y,dx,S,H,z,u,b,b1,b2,t,sp,hd,hs,vs,_,⟨⟨hY'.is.cls,by walk_at "hp",by walk_at "hp"⟩,by walk_at "hp",by walk_at "hp",hY'.ne,hY'.rep,hY'.cn,hY'.k60,hY'.len⟩,hp,hl,hvl,.inl rfl,⟨by walk_at "hp",by walk_at "hp",by walk_at "lk",by walk_at "lk",by walk_at "lk",by walk_at "lk",by walk_at "lk"⟩,⟨by walk_at "lk",by walk_at "hp",by walk_at "hp",by walk_at "hp"⟩,(ga'.putL fv).sub fun ux ux e=>e⟩)
 ·obtain rfl:=due.isRoom hY.rep hY.cn hp q
  have up:∀ a o,σ.hp a=some o→(∀ d,o ≠ .dict d)→(∀ T,o ≠ .any T)→σ'.hp a=some o:=fun a o e nd na=>b' a o (be e hP (na _)) (be e e3 (nd _)) (be e e4 (nd _)) e
  have fz:=up _ _ hz (by intro d q;cases q) (by intro d q;cases q)
  have fu:=up _ _ hu (by intro d q;cases q) (by intro d q;cases q)
  have fb:=up _ _ hb (by intro d q;cases q) (by intro d q;cases q)
  have f1:=up _ _ h1 (by intro d q;cases q) (by intro d q;cases q)
  have f2:=up _ _ h2 (by intro d q;cases q) (by intro d q;cases q)
  have fv:=up _ _ hv (by intro d q;cases q) (by intro d q;cases q)
  have m1:=hY'.is.y
  have m2:=hY'.is.dx
  have m3:=hY'.sS
  have m4:=hY'.sH
  clear b' up hz hu hb h1 h2 hv e1 e2 e3 e4 hP
  (repeat' (first|(with_reducible first|refine fw ?_|refine fn ?_|refine eF ?_|refine bf ?_|refine eZ ?_|refine mK ?_|refine dc ?_|refine ite_neg ?_|refine jM ?_|fail)|walk_at "n"|((with_reducible refine bI ?qa ?_);(case qa=>with_unfolding_all rfl))|((with_reducible refine' gN (by walk_at "ok") ?qa ?qb ?_);(case qa=>first|exact rfl|decide|decide +kernel);(case qb=>first|exact rfl|decide|decide +kernel))|((with_reducible refine qT ?_ ?qa);(case qa=>(intro _ _;with_unfolding_all rfl)))|fail))
  refine gc g.ok (by walk_at "lst") (by walk_at "lst") ?_
  (repeat' (first|(with_reducible first|refine fw ?_|refine fn ?_|refine aW ?_|refine eQ ?_|refine bN ?_|fail)|walk_at "n"|((with_reducible refine gM (by walk_at "ok") ?qa ?_);(case qa=>(intro env;rfl)))|((with_reducible refine fq ?qa ?qb ?qc ?qd ?_);(case qa=>(intro env;rfl));(case qb=>(intro env;rfl));(case qc=>exact rfl);(case qd=>(intro env;rfl)))|fail))
  refine jJ (by walk_at "hp") ?_
  (repeat' (first|with_reducible refine aN ?_|fail))
  refine mW (by walk_at "hp") (by rw [aj];lia) ?_
  (repeat' (first|fail))
  exact eE (.inl ⟨k,_,y,dx,S,H,z,u,b,b1,b2,t,sp',hd,hs,vs,_,⟨⟨hY'.is.cls,by walk_at "hp",by walk_at "hp"⟩,by walk_at "hp",by walk_at "hp",hY'.ne,hY'.rep,hY'.cn,hY'.k60,hY'.len⟩,hp,hl,hvl,.inr rfl,⟨by walk_at "hp",by walk_at "hp",by walk_at "lk",by walk_at "lk",by walk_at "lk",by walk_at "lk",by walk_at "lk"⟩,⟨by walk_at "lk",by walk_at "hp",by walk_at "hp",by walk_at "hp"⟩,(ga'.putL fv).sub fun ux ux e=>e⟩)
 ·obtain rfl:=due.isAll hY.rep hY.cn hp q ho hY'.rep hY'.cn
  have new:∀ a o,σ.hp a=some o→(∀ d,o ≠ .dict d)→(∀ T,o ≠ .any T)→a≠r:=fun a o e nd na=>nw a o (be e hP (na _)) (be e e3 (nd _)) (be e e4 (nd _)) e
  have nzr:=new _ _ hz (by intro d q;cases q) (by intro d q;cases q)
  have nvr:=new _ _ hv (by intro d q;cases q) (by intro d q;cases q)
  have up:∀ a o,σ.hp a=some o→(∀ d,o ≠ .dict d)→(∀ T,o ≠ .any T)→σ'.hp a=some o:=fun a o e nd na=>b' a o (be e hP (na _)) (be e e3 (nd _)) (be e e4 (nd _)) e
  have fz:=up _ _ hz (by intro d q;cases q) (by intro d q;cases q)
  have fu:=up _ _ hu (by intro d q;cases q) (by intro d q;cases q)
  have fv:=up _ _ hv (by intro d q;cases q) (by intro d q;cases q)
  have m1:=hY'.is.y
  have m2:=hY'.is.dx
  have m3:=hY'.sS
  have m4:=hY'.sH
  clear b' nw new up hz hu hb h1 h2 hv e1 e2 e3 e4 hP
  (repeat' (first|(with_reducible first|refine fw ?_|refine fn ?_|refine eF ?_|refine bf ?_|refine eZ ?_|refine mK ?_|refine dc ?_|refine ite_neg ?_|refine jM ?_|fail)|walk_at "n"|((with_reducible refine bI ?qa ?_);(case qa=>with_unfolding_all rfl))|((with_reducible refine' gN (by walk_at "ok") ?qa ?qb ?_);(case qa=>first|exact rfl|decide|decide +kernel);(case qb=>first|exact rfl|decide|decide +kernel))|((with_reducible refine qT ?_ ?qa);(case qa=>(intro _ _;with_unfolding_all rfl)))|fail))
  refine gc g.ok (by walk_at "lst") (by walk_at "lst") ?_
  (repeat' (first|(with_reducible first|refine fw ?_|refine fn ?_|refine aW ?_|refine eQ ?_|refine bN ?_|fail)|walk_at "n"|((with_reducible refine gM (by walk_at "ok") ?qa ?_);(case qa=>(intro env;rfl)))|((with_reducible refine fq ?qa ?qb ?qc ?qd ?_);(case qa=>(intro env;rfl));(case qb=>(intro env;rfl));(case qc=>exact rfl);(case qd=>(intro env;rfl)))|fail))
  refine jJ (by walk_at "hp") ?_
  (repeat' (first|with_reducible refine aN ?_|fail))
  refine mW (by walk_at "hp") (by rw [aj];lia) ?_
  (repeat' (first|fail))
  exact eE (.inr ⟨k,_,y,dx,S,H,z,u,r,t',sp',hd,hs,vs,d,⟨⟨hY'.is.cls,by walk_at "hp",by walk_at "hp"⟩,by walk_at "hp",by walk_at "hp",hY'.ne,hY'.rep,hY'.cn,hY'.k60,hY'.len⟩,hp,hl,hvl,q,ho,due',⟨by walk_at "hp",by walk_at "hp",by walk_at "lk",by walk_at "lk",by walk_at "lk",by walk_at "lk",by walk_at "lk"⟩,by walk_at "lk",by walk_at "hp",nzr,(ga'.putL fv).sub fun ux ux e=>e⟩)
theorem d11a (g:Fx af (hK w.params) cx pk 30) (h:W11 (hK w.params) 98 (⟨40,48,40,88⟩:Pos) (aa "give_all"++".<locals>."++"<lambda>") σ):cf af w cx (po.drop 6) σ (fun f σ'=>f = .ret (.bool true)∧∃ ps,σ'.hp 98=some (.any (iV (i8 ps)))) (fun ux ux=>False):=by
 have g':=g
 conv at g=>arg 4;whnf
 show cf _ _ _ (_::_::_) _ _ _
 refine yX (X11 (hK w.params) 98 (⟨40,48,40,88⟩:Pos) (aa "give_all"++".<locals>."++"<lambda>")) (fun σ' h=>d11b g' h) ?_
 clear g'
 obtain ⟨k,C,y,dx,S,H,z,u,t,sp,hd,hs,vs,s,hY,hp,hl,hvl,due,⟨hz,hu,lc,ly,lh,lu,ld⟩,ga⟩:=h
 obtain rfl:=ft hY.is.cls (by k_is)
 have e6:aH=2 ^ 24:=rfl
 have e1:=hY.is.y
 have e2:=hY.is.dx
 have lt1:(cI true 0 t).length≤2 ^ 21:=by rw [← hY.rep.hd.length_eq];have:=hY.len;lia
 have lt2:(cI false 0 t).length≤2 ^ 21:=by rw [← hY.rep.sp.length_eq];have:=hY.splen;lia
 (repeat' (first|with_reducible refine dO ?_|((with_reducible refine aT (by walk_at "ok") ?qa ?qb ?_);(case qa=>exact rfl);(case qb=>exact rfl))|walk_at "n"|((with_reducible refine' dQ (by walk_at "ok") ?qa ?qc ?qd ?qe ?qb ?qf ?_);(case qa=>exact rfl);(case qb=>decide);(case qc=>k_is);(case qd=>decide);(case qe=>boot_by_name);(case qf=>exact ⟨fun ux=>rfl,fun ux=>rfl⟩))|walk_at "k"|((with_reducible refine tA (by assumption) ?qa ?_);(case qa=>exact ⟨⟨_,fun ux=>rfl⟩,fun ux=>rfl⟩))|fail))
 refine kO (hY.sub (by walk_at "sub")) (fun m1 hm1=>?_)
 (repeat' (first|with_reducible refine aN ?_|walk_at "n"|((with_reducible refine' dQ (by walk_at "ok") ?qa ?qc ?qd ?qe ?qb ?qf ?_);(case qa=>exact rfl);(case qb=>decide);(case qc=>k_is);(case qd=>decide);(case qe=>boot_by_name);(case qf=>exact ⟨fun ux=>rfl,fun ux=>rfl⟩))|walk_at "k"|((with_reducible refine' gu ?qa ?qb (fun _ _=>?_));(case qa=>walk_at "lst");(case qb=>walk_at "num"))|((with_reducible refine u6 (by assumption) ?qa ?_);(case qa=>exact ⟨⟨_,fun ux=>rfl⟩,fun ux=>rfl⟩))|fail))
 rename_i b1 hb1
 refine kO (hY.sub (by walk_at "sub")) (fun m2 hm2=>?_)
 (repeat' (first|(with_reducible first|refine fw ?_|refine aN ?_|fail)|((with_reducible refine aT (by walk_at "ok") ?qa ?qb ?_);(case qa=>exact rfl);(case qb=>exact rfl))|walk_at "n"|((with_reducible refine' dQ (by walk_at "ok") ?qa ?qc ?qd ?qe ?qb ?qf ?_);(case qa=>exact rfl);(case qb=>decide);(case qc=>k_is);(case qd=>decide);(case qe=>boot_by_name);(case qf=>exact ⟨fun ux=>rfl,fun ux=>rfl⟩))|walk_at "k"|((with_reducible refine iu ?qa (fun _ _=>?_));(case qa=>exact am rfl))|((with_reducible refine' gu ?qa ?qb (fun _ _=>?_));(case qa=>walk_at "lst");(case qb=>walk_at "num"))|fail))
 rename_i b2 hb2 b hb v hv
 exact eE ⟨k,_,y,dx,S,H,z,u,b,b1,b2,v,t,sp,hd,hs,vs,s,hY.sub (by walk_at "sub"),hp,hl,hvl,due,⟨by walk_at "hp",by walk_at "hp",by walk_at "lk",by walk_at "lk",by walk_at "lk",by walk_at "lk",by walk_at "lk"⟩,⟨by walk_at "lk",by walk_at "hp",by walk_at "hp",by walk_at "hp"⟩,by walk_at "lk",by walk_at "hp",
  dP (o:=.list (hs.map eC)) hv (by walk_at "hp"),dP (o:=.list (vs.map AV.int)) hv (by walk_at "hp"),dP (o:=.list [.ref b1,.ref b2]) hv (by walk_at "hp"),dP (o:=.list ((cI true 0 t).map eC)) hv (by walk_at "hp"),dP (o:=.list ((cI false 0 t).map eC)) hv (by walk_at "hp"),ga.sub (by walk_at "sub")⟩
theorem d11w (g:Fx af (hK w.params) cx pk 30) {k C y dx S H sx ns} (hns:ns.length≤63) (h:L9 (hK w.params) 98 (⟨40,48,40,88⟩:Pos) (aa "give_all"++".<locals>."++"<lambda>") k C y dx S H sx ns 63 σ):cf af w cx (po.drop 4) σ (fun f σ'=>f = .ret (.bool true)∧∃ ps,σ'.hp 98=some (.any (iV (i8 ps)))) (fun ux ux=>False):=by
 have g':=g
 conv at g=>arg 4;whnf
 show cf _ _ _ (_::_::_) _ _ _
 refine yX (W11 (hK w.params) 98 (⟨40,48,40,88⟩:Pos) (aa "give_all"++".<locals>."++"<lambda>")) (fun σ' h=>d11a g' h) ?_
 clear g'
 obtain ⟨⟨z,t,sp,hd,hs,hY,hz,hp,hl,lc,ly,lh,ls,fs⟩,ga⟩:=h
 have hph:=hp.length_eq
 (repeat' (first|with_reducible refine aN ?_|((with_reducible refine aT (by walk_at "ok") ?qa ?qb ?_);(case qa=>exact rfl);(case qb=>exact rfl))|walk_at "n"|walk_at "k"|((with_reducible refine A2 (by assumption) ?qa ?qb ?_);(case qa=>exact rfl);(case qb=>exact ⟨fun ux=>rfl,fun ux=>rfl⟩))|fail))
 refine ⟨sx,z,k,ns,hs,rfl,hY.k60,by walk_at "hp",hns,by walk_at "hp",fun vs u σ1 hvl s1 l1 hu=>?_⟩
 replace s1:σ.Sub σ1:=s1
 have fz:=s1 _ _ hz
 have hY1:=hY.sub s1
 have ga1:=ga.sub s1
 clear s1 hz hY ga fs
 (repeat' (first|(with_reducible first|refine fw ?_|refine aN ?_|fail)|((with_reducible refine aT (by walk_at "ok") ?qa ?qb ?_);(case qa=>exact rfl);(case qb=>exact rfl))|walk_at "n"|walk_at "k"|((with_reducible refine Db (by assumption) ?qa ?qb ?_);(case qa=>exact rfl);(case qb=>exact ⟨fun ux=>rfl,fun ux=>rfl⟩))|fail))
 refine ⟨z,u,k,hs,vs,rfl,hY1.k60,by walk_at "hp",by walk_at "hp",by lia,by lia,fun q=>?_,fun q1 q2=>?_,fun q1 q2=>?_,fun q1 q2=>?_⟩
 ·(repeat' (first|fail))
  exact eE ⟨k,C,y,dx,S,H,z,u,t,sp,hd,hs,vs,_,hY1.sub (by walk_at "sub"),hp,hl,hvl,.wish q,⟨by walk_at "hp",by walk_at "hp",by walk_at "lk",by walk_at "lk",by walk_at "lk",by walk_at "lk",by walk_at "lk"⟩,ga1.sub (by walk_at "sub")⟩
 ·(repeat' (first|fail))
  exact eE ⟨k,C,y,dx,S,H,z,u,t,sp,hd,hs,vs,_,hY1.sub (by walk_at "sub"),hp,hl,hvl,.much q1 q2,⟨by walk_at "hp",by walk_at "hp",by walk_at "lk",by walk_at "lk",by walk_at "lk",by walk_at "lk",by walk_at "lk"⟩,ga1.sub (by walk_at "sub")⟩
 ·(repeat' (first|fail))
  exact eE ⟨k,C,y,dx,S,H,z,u,t,sp,hd,hs,vs,_,hY1.sub (by walk_at "sub"),hp,hl,hvl,.room q1 q2,⟨by walk_at "hp",by walk_at "hp",by walk_at "lk",by walk_at "lk",by walk_at "lk",by walk_at "lk",by walk_at "lk"⟩,ga1.sub (by walk_at "sub")⟩
 ·(repeat' (first|fail))
  exact eE ⟨k,C,y,dx,S,H,z,u,t,sp,hd,hs,vs,_,hY1.sub (by walk_at "sub"),hp,hl,hvl,.all q1 q2,⟨by walk_at "hp",by walk_at "hp",by walk_at "lk",by walk_at "lk",by walk_at "lk",by walk_at "lk",by walk_at "lk"⟩,ga1.sub (by walk_at "sub")⟩
theorem d11t (g:Fx af (hK w.params) cx pk 30) {k C y dx S H sx ns ax l i} {c:Int} (hi:i<63) (h:I11 (hK w.params) 98 (⟨40,48,40,88⟩:Pos) (aa "give_all"++".<locals>."++"<lambda>") k C y dx S H sx ns ax l i σ) :
  cf af w cx (forB (ifB' po[3]?)[0]?) (σ.set (aa "_law_cell") (.int c)) (rI (I11 (hK w.params) 98 (⟨40,48,40,88⟩:Pos) (aa "give_all"++".<locals>."++"<lambda>") k C y dx S H sx ns ax l (i+1)) QF) E:=by
 conv at g=>arg 4;whnf
 show cf _ _ _ (_::_) _ _ _
 obtain ⟨⟨⟨z,t,sp,hd,hs,hY,hz,hp,hl,lc,ly,lh,ls,fs⟩,ga⟩,ha⟩:=h
 (repeat' (first|(with_reducible first|refine av ?_|refine aN ?_|fail)|((with_reducible refine aT (by walk_at "ok") ?qa ?qb ?_);(case qa=>exact rfl);(case qb=>exact rfl))|walk_at "n"|walk_at "k"|((with_reducible refine EY (by assumption) ?qa ?qb ?_);(case qa=>exact rfl);(case qb=>exact ⟨fun ux=>rfl,fun ux=>rfl⟩))|fail))
 refine ⟨y,z,c,k,_,dx,S,H,i,rfl,⟨t,sp,hd,hs,hY.sub (by walk_at "sub"),by walk_at "hp",hp,hl,AS.But.refl⟩,by lia,fun σ' z' l' hyh=>?_⟩
 obtain ⟨t',sp',hd',hs',hY',hz',hp',hlen',bt⟩:=hyh
 replace bt:σ.But S H σ':=bt
 have fs':=bt.at hY.sS hY.sH fs (by intro d q;cases q)
 have ha':=bt.at hY.sS hY.sH ha (by intro d q;cases q)
 have ga':=ga.but bt hY.sS hY.sH
 (repeat' (first|(with_reducible first|refine a' ?_|refine aW ?_|fail)|fail))
 exact ⟨⟨⟨z',t',sp',hd',hs',hY'.sub (by walk_at "sub"),by walk_at "hp",hp',hlen',by walk_at "lk",by walk_at "lk",by walk_at "lk",by walk_at "lk",by walk_at "hp"⟩,ga'.sub (by walk_at "sub")⟩,by walk_at "hp"⟩
theorem d11h (g:Fx af (hK w.params) cx pk 30) {k C y dx S H sx ns} (hns:ns.length≤63) (h:L9 (hK w.params) 98 (⟨40,48,40,88⟩:Pos) (aa "give_all"++".<locals>."++"<lambda>") k C y dx S H sx ns 0 σ):cf af w cx (po.drop 3) σ (fun f σ'=>f = .ret (.bool true)∧∃ ps,σ'.hp 98=some (.any (iV (i8 ps)))) (fun ux ux=>False):=by
 have g':=g
 conv at g=>arg 4;whnf
 show cf _ _ _ (_::_) _ _ _
 refine pW (L9 (hK w.params) 98 (⟨40,48,40,88⟩:Pos) (aa "give_all"++".<locals>."++"<lambda>") k C y dx S H sx ns 63) (fun σ' h=>d11w g' hns h) ?_
 clear g'
 obtain ⟨lg,ga⟩:=id h
 obtain ⟨z,t,sp,hd,hs,hY,hz,hp,hl,lc,ly,lh,ls,fs⟩:=id lg
 have e6:aH=2 ^ 24:=rfl
 (repeat' (first|(with_reducible first|refine fn ?_|refine aW ?_|refine av ?_|refine eF ?_|refine cG ?_|refine bf ?_|refine aN ?_|refine kJ ?_|fail)|walk_at "n"|walk_at "k"|((with_reducible refine bI ?qa ?_);(case qa=>with_unfolding_all rfl))|((with_reducible refine eq ?qa ?_);(case qa=>walk_at "pos"))|((with_reducible refine v_div (by walk_at "ok") ?qa ?_);(case qa=>walk_at "pos"))|with_reducible refine iZ (fun _=>?_) (fun _=>?_)|((with_reducible refine rB (by assumption) ?qa ?qb ?_);(case qa=>exact rfl);(case qb=>exact ⟨fun ux=>rfl,fun ux=>rfl⟩))|((with_reducible refine' rH ?qa ?qb ?qc ?qd ?_);(case qa=>walk_at "hp");(case qb=>with_reducible assumption);(case qc=>lia);(case qd=>lia))|fail))
 ·refine gG g rfl (fun ux=>rfl) ?_
  (repeat' (first|(with_reducible first|refine qO ?_|refine cG ?_|refine bf ?_|refine aN ?_|refine eI ?_|fail)|walk_at "n"|walk_at "k"|((with_reducible refine eq ?qa ?_);(case qa=>walk_at "pos"))|((with_reducible refine rB (by assumption) ?qa ?qb ?_);(case qa=>exact rfl);(case qb=>exact ⟨fun ux=>rfl,fun ux=>rfl⟩))|((with_reducible refine' rH ?qa ?qb ?qc ?qd ?_);(case qa=>walk_at "hp");(case qb=>with_reducible assumption);(case qc=>lia);(case qd=>lia))|fail))
  refine ⟨_,_,_,_,rfl,rfl,rfl,by walk_at "lst",by rw [aj];lia,fun ax hax=>?_⟩
  refine ⟨ax,_,I11 (hK w.params) 98 (⟨40,48,40,88⟩:Pos) (aa "give_all"++".<locals>."++"<lambda>") k C y dx S H sx ns ax _,rfl,⟨h.sub (gW hax) rfl,aX⟩,fun i σ h=>(let ⟨_,ha⟩:=h;ha),?_,?_⟩
  ·intro i a σ cx g ha h
   have hi:i<63:=bO (aF.mp ha).1 (aI lq hns)
   obtain ⟨c,rfl⟩:=sI ha
   exact d11t g hi h
  ·rintro σ ⟨⟨lg,ga⟩,_⟩
   (repeat' (first|(with_reducible first|refine a' ?_|refine aW ?_|fail)|fail))
   exact eE ⟨lg.mono (aI lq hns),ga⟩
 ·exact eE ⟨lg.mono (by lia),ga⟩
theorem Em:tO af w:=by
 intro cx σ l ns hns g hloc hhp hhP
 have g':=g
 conv at g=>arg 4;whnf
 show cf _ _ _ (_::_) _ _ _
 refine Ea (fun σ'=>∃ k C y dx S H sx,L9 (hK w.params) 98 (⟨40,48,40,88⟩:Pos) (aa "give_all"++".<locals>."++"<lambda>") k C y dx S H sx ns 0 σ') (fun σ' ⟨k,C,y,dx,S,H,sx,h⟩=>d11h g' hns h) ?_
 (repeat' (first|with_reducible refine aN ?_|((with_reducible refine aT (by walk_at "ok") ?qa ?qb ?_);(case qa=>exact rfl);(case qb=>exact rfl))|walk_at "n"|walk_at "k"|((with_reducible refine C9 (by assumption) ?qa ?qb ?_);(case qa=>exact rfl);(case qb=>exact ⟨fun ux=>rfl,fun ux=>rfl⟩))|fail))
 refine ⟨_,_,rfl,by walk_at "hp",hns,fun k hk=>?_⟩
 have h0:=dI k
 have h1:=gI hk
 (repeat' (first|(with_reducible first|refine fw ?_|refine aN ?_|fail)|((with_reducible refine aT (by walk_at "ok") ?qa ?qb ?_);(case qa=>exact rfl);(case qb=>exact rfl))|walk_at "n"|walk_at "k"|((with_reducible refine EV (by assumption) ?qa ?qb ?_);(case qa=>exact rfl);(case qb=>exact ⟨fun ux=>rfl,fun ux=>rfl⟩))|fail))
 refine E2 (fun q=>?_) (fun k' hk' hkk σ1 y C dx S H hs1 hl1 hy hdx hS hH hY=>?_)
 ·rcases q with q|q|q
  ·lia
  ·lia
  ·exact absurd rfl (q k)
 obtain rfl:=lx hkk
 obtain rfl:=ft hY.is.cls (by k_is)
 have fs:=hs1 _ _ hhp
 have fP:=hs1 _ _ hhP
 (repeat' (first|(with_reducible first|refine fw ?_|refine aN ?_|refine dO ?_|fail)|((with_reducible refine aT (by walk_at "ok") ?qa ?qb ?_);(case qa=>exact rfl);(case qb=>exact rfl))|((with_reducible refine iu ?qa (fun _ _=>?_));(case qa=>exact am rfl))|fail))
 rename_i z hz
 exact eE ⟨k,_,y,dx,S,H,_,⟨⟨z,_,_,[],[],hY.sub (by walk_at "sub"),by show _=some (AO.list []);walk_at "hp",pP _,aU _,by walk_at "lk",by walk_at "lk",by walk_at "lk",by walk_at "lk",by walk_at "hp"⟩,.fresh (by walk_at "hp")⟩⟩
end
theorem law_holds:PySem.Challenge.rw_uf060009_11.Holds:=by
 refine holds_law (by decide +kernel) (fun said=>?_);refine holds_open (q:=hq) (loose:=[]) (Xt:=hX) (XP:=XL hq []) (Yf:=hH.obs) (Ya:=hH.val) (YP:=hH.says) (N:=4620) hleft (Hook.of hH) (Hook.keeps hH) (fun s e=>xl_of s (Bool.and_eq_true_iff.mp e).1) XL.keeps (by rfl) (by rfl) (by rfl) (fun s e=>recFacts_of (Bool.and_eq_true_iff.mp e).2) (by rfl) said (by decide +kernel) ⟨rfl,rfl,rfl,rfl,rfl,by decide +kernel⟩ ⟨[.list []],by decide +kernel,by decide +kernel⟩ ?_
 exact (by
  k_fill
  intro w s₀ s₁ mg mb G Y fa o pm cd doc dV kV ho hd hcd hD hmg hg args vals as Eu hlay hrd hwl hlo
  have KX:=kIn_of Y
  have X:=(Ground.X G).1
  have V:=(Ground.X G).2
  refine Ground.open G ?_
  intro T B D TE TW
  refine guard_noD D (by decide +kernel) ?_
  clear D
  have hT9:TabsAt [(100,98)] _:=List.forall_mem_cons.mpr ⟨tab_of (x:=aa "give_all") (c:=100) (P:=98) T KX rfl (by kernel_rfl),fun ux h=>nomatch h⟩
  obtain ⟨_,_,M⟩:=bmod_of_top T
  have TA:=at_of_top T
  obtain ⟨_,_,he,B0⟩:=based_of_top T rfl hmg ho hd
  have he':cd=_:=he
  subst he'
  clear he hmg
  wrow_args Eu hlay hrd hwl hlo
  first|refine callC_kw (enter_call ?_)|refine enter_call ?_
  w_top on
  refine kn_post hT9 (fun ux ux=>rfl) ?_
  have K0:=below_caller (Top.heap T)
  w_call any ho hd hcd hD T F
  clear hd TA
  k_drop
  rename Frag.In _ _=>KX
  rename Top _ _ _ _ _ _=>T
  rename Heap.IsList _ _ _=>hL
  rename IntsAre _ _=>hI
  rename Fr _ _ _ _=>F
  rename _=#[]=>hg
  refine xB hT9 (x7 hT9 T KX (by kernel_rfl) (by decide +kernel) rfl) hL hI F rfl rfl rfl rfl rfl (by decide) (fun f s' h k gr ho hg'=>⟨Au (fun ux=>rfl) (by wrow_post) hg k ho hg' h,gr,trivial⟩) (fun cx σ g hloc hhp hhP=>?_)
  dsimp only at g
  rename List Int=>ns
  have hns:ns.length≤63:=by lia
  rename Below _ _ _ _=>K0
  rename Heap.CodeRec _ _ _=>hcd
  rename Dflts _ _ _ _ _ _=>hD
  rename Ground _ _ _ _ _ _ _ _ _=>G
  clear K0 hD hcd F hL hI hg T KX G hT9
  show cf _ _ _ (_::_) _ _ _
  exact En Em _ _ cx σ _ ns hns g hloc hhp hhP)
end Mine
theorem PySem.Challenge.cw_uf060009_11_holds : PySem.Challenge.rw_uf060009_11.Holds :=
 Mine.law_holds
