import PyProof.Rows.All
import Wide.All
import OpenK.AllK
import Wide.FinOn
import PyProof.Seq
import PyProof.Methods
import PyProof.TupleIter
import PyProof.SliceList
import PyProof.MeetsStr2
import PyProof.CallStr
import PyProof.Cells
import PyProof.StrWalks
import PyProof.CollectIter
import PyProof.CompFree
import PyProof.PureInt
import PyProof.Conv_int_bool
import PyProof.ListOps
import PyProof.DictKinds
import PyProof.DictTruth
import PyProof.DictDisplay
import PyProof.DictRoadsH
import PyProof.EnumFor
import PyProof.EnumMake
import PyProof.IsRules
import PyProof.P3Eq
import PyProof.NeData
import PyProof.RaisesMany
import PyProof.StrLaws
import PyProof.SliceStr2
import PyProof.StrOps
import PyProof.StrOps2
import PyProof.StrBlock
import PyProof.StrBlockI
import PyProof.StrBlockL
import PyProof.StrLawsChain
import PyProof.WalksMore
import PyProof.RangeFor
import PyProof.IsInstance
import PyProof.IsInstanceH
import PyProof.IsiNone
import PyProof.ListCopy
import PyProof.ListIndexNeg
import PyProof.ListMulRoad
import PyProof.WalkInts
import PyProof.P3In
import PyProof.PvWalk
import PyProof.Rows.TupSub
import PyProof.SetScanFacts
import PyProof.ZipIter
import PyProof.Truth
import PyProof.StrCalls2
import PyProof.StrLawsOccR
import PyProof.Rows.Chain
import PyProof.Rows.Nodes
import PyProof.Rows.RuleB_floordiv
import PyProof.Rows.RuleB_mod
import PyProof.StrCalls3
import PyProof.Rows.StrTemp
import PyProof.Rows.ListMul
import PyProof.Rows.ListMulCarried
import PyProof.Rows.ListMulR
import PyProof.Rows.RuleC_bool
import PyProof.Rows.RuleN_abs
import PyProof.TupleOps
import PyProof.SeqI3
import PyProof.Rows.TupMore
import PyProof.Rows.StrPins
import PyProof.StrLawsTight
import PyProof.Rows.StrCut
import PyProof.Rows.TupTab
import PyProof.Rows.SeqMore2
import PyProof.Rows.TupAdd
import PyProof.Rows.SortRuns
import PyProof.Rows.SortShell
import PyProof.Rows.SortWalk
import PyProof.Rows.Range3
import PyProof.Rows.SetFrom
import OpenK.TopRead
import OpenK.KWalk
import KE.KItem
import KE.KLam
import KE.KSortTup
import PySem.Challenge.RW_uf030034_11
set_option Elab.async false
set_option linter.all false
set_option genSizeOf false
set_option genInjectivity false
set_option maxRecDepth 100000
set_option maxHeartbeats 8000000
open PySem PyProof.Rows
namespace Mine.Internal
abbrev sO:String->PySem.Str:=PySem.Str.ofString
abbrev rT:true=true:=Eq.refl true
abbrev lA0:=@List.drop_append_of_le_length
abbrev lA1:=@List.eq_nil_of_length_eq_zero
abbrev lA2:=@List.getD_eq_getElem?_getD
abbrev lA3:=@List.getElem?_append_right
abbrev lA4:=@List.drop_eq_getElem_cons
abbrev lA5:=@List.extract_eq_take_drop
abbrev lA6:=@List.getElem?_append_left
abbrev lA7:=@List.pairwise_iff_getElem
abbrev lA8:=@Nat.lt_of_add_lt_add_left
abbrev lA9:=@List.getElem?_eq_getElem
abbrev lB0:=@List.getElem?_take_of_lt
abbrev lB1:=@Option.isSome_iff_exists
abbrev lB2:=@Nat.add_sub_cancel_left
abbrev lB3:=@Option.bind_eq_some_iff
abbrev lB4:=@PySem.wpAny_callSpecial?_slot
abbrev lB5:=@PySem.Calls.callWith_builtin
abbrev lB6:=@PySem.Heap.get?_push_of_some
abbrev lB7:=@PySem.Heap.get?_update_other
abbrev lB8:=@List.getElem?_set_self
abbrev lB9:=@List.length_eq_one_iff
abbrev lC0:=@List.take_of_length_le
abbrev lC1:=@Option.map_eq_some_iff
abbrev lC2:=@Array.getElem?_toList
abbrev lC3:=@List.contains_iff_mem
abbrev lC4:=@List.length_replicate
abbrev lC5:=@List.length_singleton
abbrev lC6:=@List.mem_append_right
abbrev lC7:=@List.perm_append_comm
abbrev lC8:=@List.set_append_right
abbrev lC9:=@List.take_append_drop
abbrev lD0:=@PySem.Around.under_plainId
abbrev lD1:=@Bool.and_eq_true_iff
abbrev lD2:=@PySem.Calls.evalArgs_plain
abbrev lD3:=@List.getElem?_set_ne
abbrev lD4:=@List.mem_append_left
abbrev lD5:=@List.mem_of_getElem?
abbrev lD6:=@List.mem_of_mem_take
abbrev lD7:=@List.pairwise_append
abbrev lD8:=@Nat.sub_le_sub_right
abbrev lD9:=@Array.length_toList
abbrev lE0:=@Array.toList_append
abbrev lE1:=@PySem.Heap.get?_push_size
abbrev lE2:=@List.getElem_of_mem
abbrev lE3:=@List.map_congr_left
abbrev lE4:=@Nat.add_le_add_left
abbrev lE5:=@Nat.add_sub_cancel'
abbrev lE6:=@Bool.false_eq_true
abbrev lE7:=@PySem.Calls.spliced_cons
abbrev lE8:=@Int.lt_of_le_of_lt
abbrev lE9:=@List.getElem?_drop
abbrev lF0:=@List.getElem_range
abbrev lF1:=@List.mem_singleton
abbrev lF2:=@List.pairwise_cons
abbrev lF3:=@Nat.lt_of_le_of_lt
abbrev lF4:=@Nat.lt_of_le_of_ne
abbrev lF5:=@Nat.lt_of_lt_of_le
abbrev lF6:=@Nat.lt_or_eq_of_le
abbrev lF7:=@Nat.pos_of_ne_zero
abbrev lF8:=@of_decide_eq_false
abbrev lF9:=@PySem.wpAny_setField_rec
abbrev lG0:=@Array.toList_push
abbrev lG1:=@Bool.not_eq_true'
abbrev lG2:=@Int.toNat_natCast
abbrev lG3:=@List.getElem?_map
abbrev lG4:=@List.length_range
abbrev lG5:=@List.nodup_append
abbrev lG6:=@List.pairwise_map
abbrev lG7:=@List.size_toArray
abbrev lG8:=@Nat.le_of_lt_succ
abbrev lG9:=@Nat.lt_of_succ_lt
abbrev lH0:=@Nat.lt_succ_of_lt
abbrev lH1:=@Nat.lt_trichotomy
abbrev lH2:=@decide_eq_true_eq
abbrev lH3:=@of_decide_eq_true
abbrev lH4:=@PySem.wpAny_newObj_type
abbrev lH5:=@PySem.wpAny_setState_of
abbrev lH6:=@Bool.and_eq_true
abbrev lH7:=@List.all_eq_true
abbrev lH8:=@List.any_eq_true
abbrev lH9:=@List.ext_getElem
abbrev lI0:=@List.length_cons
abbrev lI1:=@List.length_drop
abbrev lI2:=@List.length_take
abbrev lI3:=@List.not_mem_nil
abbrev lI4:=@Nat.le_add_right
abbrev lI5:=@Nat.lt_succ_self
abbrev lI6:=@Nat.succ_le_succ
abbrev lI7:=@decide_eq_decide
abbrev lI8:=@PySem.wpAny_call_entry
abbrev lI9:=@Int.natCast_mul
abbrev lJ0:=@List.append_nil
abbrev lJ1:=@List.cons.injEq
abbrev lJ2:=@List.foldl_cons
abbrev lJ3:=@List.forIn_cons
abbrev lJ4:=@List.length_set
abbrev lJ5:=@List.map_append
abbrev lJ6:=@List.mem_append
abbrev lJ7:=@Nat.le_antisymm
abbrev lJ8:=@Nat.min_eq_left
abbrev lJ9:=@Nat.not_lt_zero
abbrev lK0:=@Nat.zero_lt_one
abbrev lK1:=@Option.map_some
abbrev lK2:=@Option.some.inj
abbrev lK3:=@and_congr_right
abbrev lK4:=@PySem.call_isinstance
abbrev lK5:=@PySem.codeAny_builtin
abbrev lK6:=@PySem.codeAny_of_tree
abbrev lK7:=@PySem.Heap.size_push
abbrev lK8:=@List.drop_zero
abbrev lK9:=@List.mem_range
abbrev lL0:=@Nat.mul_le_mul
abbrev lL1:=@decide_eq_true
abbrev lL2:=@PySem.isSubtype_type
abbrev lL3:=@Bool.false_or
abbrev lL4:=@List.map_cons
abbrev lL5:=@List.mem_cons
abbrev lL6:=@Nat.add_assoc
abbrev lL7:=@Nat.lt_irrefl
abbrev lL8:=@PySem.wpAny_holding
abbrev lL9:=@PySem.wpAny_standAt
abbrev lM0:=@PySem.Heap.lt_size
abbrev lM1:=@Int.le_of_lt
abbrev lM2:=@Int.le_trans
abbrev lM3:=@List.map_map
abbrev lM4:=@List.mem_map
abbrev lM5:=@Nat.le_of_eq
abbrev lM6:=@Nat.le_of_lt
abbrev lM7:=@Nat.le_trans
abbrev lM8:=@Nat.lt_or_ge
abbrev lM9:=@Nat.lt_trans
abbrev lN0:=@Nat.ne_of_lt
abbrev lN1:=@Nat.sub_self
abbrev lN2:=@Nat.zero_add
abbrev lN3:=@Int.le_refl
abbrev lN4:=@Nat.le_refl
abbrev lN5:=@Nat.le_succ
abbrev lN6:=@Int.not_lt
abbrev lN7:=@Nat.not_lt
abbrev lN8:=@beq_iff_eq
abbrev lN9:=@PySem.wpAny_bind
abbrev lO0:=@PySem.wpAny_mono
abbrev lO1:=@PySem.wpAny_pure
abbrev lO2:=@congrArg
abbrev lO3:=@if_false
abbrev lO4:=@if_true
abbrev lO5:=@if_neg
abbrev lO6:=@if_pos
theorem lq0{α:Type _}{a b:α}:a ∈ [b]->a=b:=lF1.mp
theorem lq1{α:Type _}{a:α}{l:List α}:a ∈ a::l:=List.mem_cons_self
theorem lq2{α:Type _}{l:List α}{i:Nat}{a:α}:l[i]? =some a->∃h:i<l.length,l[i]=a:=List.getElem?_eq_some_iff.mp
theorem lq3{α:Type _}{l:List α}{a:α}:(l++[a])[l.length]? =some a:=List.getElem?_concat_length
theorem lq4{α:Type _}(a:α){b:α}{l:List α}:b ∈ l->b ∈ a::l:=List.mem_cons_of_mem a
theorem lq5(n:Nat):0<=n:=Nat.zero_le n
theorem lq6{α β:Type _}{l:List α}{f:α->β}:(l.map f).length=l.length:=List.length_map f
theorem lq7{α:Type _}{a b:List α}:(a++b).length=a.length+b.length:=List.length_append
theorem lq8{α:Type _}(a b c:List α):a++b++c=a++(b++c):=List.append_assoc a b c
section
open W
noncomputable def ke (P:Params)(x:Str)(t:Nat)(v:Value):DictEntry:=⟨PyData.keyHash P x,.str x t,v⟩
noncomputable def Iz (p:Program)(i:Nat)(md:Str)(t:Nat)(c:Addr):Obj:=match p.main.body[i]? with
 |some (.FunctionDef nm args b _ _ _ sc _ _ _)=>{cls:=.type "function",data:=.func {name:=nm,qualname:=nm,params:=args,body:=.stmts b,scope:=sc,globals:=3,closure:=[],defaults:=.none,kwdefaults:=.none,pyModule:=.str md t,code:=.ref c}}
 |_=>default
theorem zHk{l:OpenLaw}{keep:List Nat}{K:Params->Frag}{as:List Addr}{N:Nat}(e:∀P,as=(K P).map (·.1))(ws:l.wellSaid=true)
  (left:∀w,(openEnds treeTable l.prog w N).map (λs=>(openSeen (view l.prog keep) [] (importedModules l.prog.main.body) (λs=>xlAt (view l.prog keep) [] s&&recOk [] s) true s,as.map s.heap.get?))=some (openGood (view l.prog keep) [],(K w.params).map λp=>some p.2))
  (hx:(defOf (view l.prog keep) l.name).isSome=true) (hp:l.prog.theDef l.name=some (((defOf (view l.prog keep) l.name).get hx).1.params,((defOf (view l.prog keep) l.name).get hx).1.body,((defOf (view l.prog keep) l.name).get hx).1.scope))
  (hk:kwWritten? ((defOf (view l.prog keep) l.name).get hx).1.params.kwonlyargs ((defOf (view l.prog keep) l.name).get hx).1.params.kw_defaults=some ((defOf (view l.prog keep) l.name).get hx).2)
  (hwr:(!l.row.writes||l.row.records.isEmpty)=true) (ok:(chainsOk (view l.prog keep)&&opensWell l.prog&&(frees l.row.toRowW&&l.row.within.isEmpty))=true) (hb:l.prog.bare) (hw:l.row.toRowW.promised)
  (walk:WalkO (view l.prog keep) [] (XL (view l.prog keep) []) (kHook K as e).says l.row.toRowW ((defOf (view l.prog keep) l.name).get hx).1 ((defOf (view l.prog keep) l.name).get hx).2 λf vs=>PySem.call f vs):l.Holds:=
 holds_law ws λsaid=>holds_open (r:=l.row) (q:=view l.prog keep) (loose:=[]) (Xt:=λs=>xlAt (view l.prog keep) [] s&&recOk [] s) (XP:=XL (view l.prog keep) []) (Yf:=(kHook K as e).obs) (Ya:=(kHook K as e).val) (YP:=(kHook K as e).says) (N:=N) left (kHook K as e).of (kHook K as e).keeps
  (λs h=>xl_of s (lD1.mp h).1) XL.keeps (Option.some_get hx).symm hp hk (λs h=>recFacts_of (lD1.mp h).2) hwr said ok hb hw walk
end
section
open W
noncomputable abbrev pw:Program:=PySem.Challenge.pw_uf030034_11
noncomputable def Ju:List Nat:=[1,2,3,4,6,7,8,10,11,12,13,14,15,16,18,19,20,21,22,23,24,25,27,28,30,31,32,34,35,36,37,38,39,40,41,43,44,45,46,47,48,49,50,51,52,53,54]
noncomputable def Iy (n:Str)(a l k r:Nat)(x y z w:Value)(t:Nat):Obj:={cls:=(.type "code"),data:=.fields #[.str n a,.str n (a+1),.str (sO "/claim/cut.py") (a+2),.int l 0,.int k 0,.int 0 0,.int 0 0,.int 3 0,.ref r,.bool true,.int 181 0,.ref (r+1),x,y,z,w,.int t 0,.int l 0,.str (sO "/claim/cut.py") (t+1)]}
noncomputable def hK (P:Params):Frag:=[
 (3,{cls:=(.type "dict"),data:=.dict #[ke P (sO "__name__") 165 (.str (sO "law_uf030034_11") 549),ke P (sO "__doc__") 166 .none,ke P (sO "__package__") 167 .none,ke P (sO "__loader__") 168 (.builtin "__main__.__loader__#opaque"),ke P (sO "__spec__") 169 .none,ke P (sO "__annotations__") 170 (.ref 6),ke P (sO "__builtins__") 171 (.ref 4),ke P (sO "__file__") 173 (.str (sO "/claim/cut.py") 172),ke P (sO "__cached__") 174 .none,ke P (sO "MOST") 190 (.int 200 189),ke P (sO "lines_of") 197 (.ref 21),ke P (sO "longest") 203 (.ref 26),ke P (sO "is_good") 212 (.ref 33),ke P (sO "lines") 228 (.ref 40),ke P (sO "across") 234 (.ref 45),ke P (sO "down") 240 (.ref 50),ke P (sO "TableError") 260 (.ref 60),ke P (sO "BadSize") 276 (.ref 73),ke P (sO "BadCell") 292 (.ref 85),ke P (sO "BadText") 308 (.ref 97),ke P (sO "Shared") 324 (.ref 109),ke P (sO "Bare") 340 (.ref 121),ke P (sO "NoDrawing") 356 (.ref 133),ke P (sO "MOST_LINES") 360 (.int 20 359),ke P (sO "is_whole") 367 (.ref 142),ke P (sO "in_order") 374 (.ref 149),ke P (sO "is_size") 381 (.ref 156),ke P (sO "lies_in") 394 (.ref 163),ke P (sO "squares_of") 404 (.ref 170),ke P (sO "look_at") 413 (.ref 177),ke P (sO "made") 425 (.ref 184),ke P (sO "kept") 437 (.ref 191),ke P (sO "tight") 443 (.ref 196),ke P (sO "draw_edges") 458 (.ref 203),ke P (sO "draw_text") 472 (.ref 210),ke P (sO "drawn") 478 (.ref 215),ke P (sO "sign_at") 489 (.ref 222),ke P (sO "begins") 498 (.ref 229),ke P (sO "box_at") 509 (.ref 236),ke P (sO "boxes_of") 522 (.ref 243),ke P (sO "text_in") 528 (.ref 248),ke P (sO "number_of") 534 (.ref 253),ke P (sO "table_in") 540 (.ref 258),ke P (sO "read") 548 (.ref 265),ke P (sO "_law_whole") 557 (.ref 272),ke P (sO "_law_at") 565 (.ref 279),ke P (sO "_law_line") 571 (.ref 284),ke P (sO "_law_text") 577 (.ref 289),ke P (sO "_law_size") 584 (.ref 296),ke P (sO "_law_tiled") 602 (.ref 303),ke P (sO "_law_corner") 609 (.ref 310),ke P (sO "_law_cells") 615 (.ref 315),ke P (sO "_law_counted") 621 (.ref 320),ke P (sO "_law_is") 634 (.ref 327),ke P (sO "_law_read") 641 (.ref 334),ke P (sO "law") 659 (.ref 341)] 56}),
 (21,Iz pw 2 (sO "boxtable.texts") 187 20),
 (26,Iz pw 3 (sO "boxtable.texts") 187 25),
 (33,Iz pw 4 (sO "boxtable.texts") 187 32),
 (40,Iz pw 6 (sO "boxtable.places") 213 39),
 (45,Iz pw 7 (sO "boxtable.places") 213 44),
 (50,Iz pw 8 (sO "boxtable.places") 213 49),
 (142,Iz pw 19 (sO "boxtable.tables") 357 141),
 (149,Iz pw 20 (sO "boxtable.tables") 357 148),
 (156,Iz pw 21 (sO "boxtable.tables") 357 155),
 (163,Iz pw 22 (sO "boxtable.tables") 357 162),
 (170,Iz pw 23 (sO "boxtable.tables") 357 169),
 (177,Iz pw 24 (sO "boxtable.tables") 357 176),
 (184,Iz pw 25 (sO "boxtable.tables") 357 183),
 (191,Iz pw 27 (sO "boxtable.shapes") 426 190),
 (196,Iz pw 28 (sO "boxtable.shapes") 426 195),
 (203,Iz pw 30 (sO "boxtable.drawing") 444 202),
 (210,Iz pw 31 (sO "boxtable.drawing") 444 209),
 (215,Iz pw 32 (sO "boxtable.drawing") 444 214),
 (222,Iz pw 34 (sO "boxtable.reading") 479 221),
 (229,Iz pw 35 (sO "boxtable.reading") 479 228),
 (236,Iz pw 36 (sO "boxtable.reading") 479 235),
 (243,Iz pw 37 (sO "boxtable.reading") 479 242),
 (248,Iz pw 38 (sO "boxtable.reading") 479 247),
 (253,Iz pw 39 (sO "boxtable.reading") 479 252),
 (258,Iz pw 40 (sO "boxtable.reading") 479 257),
 (265,Iz pw 41 (sO "boxtable.reading") 479 264),
 (272,Iz pw 43 (sO "law_uf030034_11") 549 271),
 (279,Iz pw 44 (sO "law_uf030034_11") 549 278),
 (284,Iz pw 45 (sO "law_uf030034_11") 549 283),
 (289,Iz pw 46 (sO "law_uf030034_11") 549 288),
 (296,Iz pw 47 (sO "law_uf030034_11") 549 295),
 (303,Iz pw 48 (sO "law_uf030034_11") 549 302),
 (310,Iz pw 49 (sO "law_uf030034_11") 549 309),
 (315,Iz pw 50 (sO "law_uf030034_11") 549 314),
 (320,Iz pw 51 (sO "law_uf030034_11") 549 319),
 (327,Iz pw 52 (sO "law_uf030034_11") 549 326),
 (334,Iz pw 53 (sO "law_uf030034_11") 549 333),
 (341,Iz pw 54 (sO "law_uf030034_11") 549 340),
 (20,Iy (sO "lines_of") 191 3 1 15 .none (.ref 17) (.ref 18) (.ref 19) 195),
 (25,Iy (sO "longest") 198 5 1 22 .none .none .none (.ref 24) 201),
 (32,Iy (sO "is_good") 204 7 1 27 .none (.ref 29) (.ref 30) (.ref 31) 210),
 (39,Iy (sO "lines") 215 18 2 34 .none (.ref 36) (.ref 37) (.ref 38) 226),
 (44,Iy (sO "across") 229 27 1 41 .none .none .none (.ref 43) 232),
 (49,Iy (sO "down") 235 30 1 46 .none .none .none (.ref 48) 238),
 (141,Iy (sO "is_whole") 361 50 1 136 .none (.ref 138) (.ref 139) (.ref 140) 365),
 (148,Iy (sO "in_order") 368 52 1 143 .none (.ref 145) (.ref 146) (.ref 147) 372),
 (155,Iy (sO "is_size") 375 54 1 150 .none (.ref 152) (.ref 153) (.ref 154) 379),
 (162,Iy (sO "lies_in") 382 56 6 157 .none (.ref 159) (.ref 160) (.ref 161) 392),
 (169,Iy (sO "squares_of") 395 63 1 164 .none (.ref 166) (.ref 167) (.ref 168) 402),
 (176,Iy (sO "look_at") 405 69 3 171 .none (.ref 173) (.ref 174) (.ref 175) 411),
 (183,Iy (sO "made") 414 76 3 178 .none (.ref 180) (.ref 181) (.ref 182) 423),
 (190,Iy (sO "kept") 428 91 2 185 .none (.ref 187) (.ref 188) (.ref 189) 435),
 (195,Iy (sO "tight") 438 99 1 192 .none .none .none (.ref 194) 441),
 (202,Iy (sO "draw_edges") 446 109 5 197 .none (.ref 199) (.ref 200) (.ref 201) 456),
 (209,Iy (sO "draw_text") 459 118 4 204 .none (.ref 206) (.ref 207) (.ref 208) 470),
 (214,Iy (sO "drawn") 473 126 1 211 .none .none .none (.ref 213) 476),
 (221,Iy (sO "sign_at") 481 144 3 216 .none (.ref 218) (.ref 219) (.ref 220) 487),
 (228,Iy (sO "begins") 490 148 3 223 .none (.ref 225) (.ref 226) (.ref 227) 496),
 (235,Iy (sO "box_at") 499 150 3 230 .none (.ref 232) (.ref 233) (.ref 234) 507),
 (242,Iy (sO "boxes_of") 510 162 1 237 .none (.ref 239) (.ref 240) (.ref 241) 520),
 (247,Iy (sO "text_in") 523 179 2 244 .none .none .none (.ref 246) 526),
 (252,Iy (sO "number_of") 529 184 2 249 .none .none .none (.ref 251) 532),
 (257,Iy (sO "table_in") 535 186 1 254 .none .none .none (.ref 256) 538),
 (264,Iy (sO "read") 541 198 1 259 .none (.ref 261) (.ref 262) (.ref 263) 546),
 (271,Iy (sO "_law_whole") 551 209 1 266 .none (.ref 268) (.ref 269) (.ref 270) 555),
 (278,Iy (sO "_law_at") 558 211 2 273 .none (.ref 275) (.ref 276) (.ref 277) 563),
 (283,Iy (sO "_law_line") 566 215 2 280 .none .none .none (.ref 282) 569),
 (288,Iy (sO "_law_text") 572 219 1 285 .none .none .none (.ref 287) 575),
 (295,Iy (sO "_law_size") 578 230 1 290 .none (.ref 292) (.ref 293) (.ref 294) 582),
 (302,Iy (sO "_law_tiled") 585 234 3 297 .none (.ref 299) (.ref 300) (.ref 301) 600),
 (309,Iy (sO "_law_corner") 603 252 1 304 .none (.ref 306) (.ref 307) (.ref 308) 607),
 (314,Iy (sO "_law_cells") 610 254 4 311 .none .none .none (.ref 313) 613),
 (319,Iy (sO "_law_counted") 616 266 3 316 .none .none .none (.ref 318) 619),
 (326,Iy (sO "_law_is") 622 271 4 321 .none (.ref 323) (.ref 324) (.ref 325) 632),
 (333,Iy (sO "_law_read") 635 283 1 328 .none (.ref 330) (.ref 331) (.ref 332) 639),
 (340,Iy (sO "law") 642 288 1 335 .none (.ref 337) (.ref 338) (.ref 339) 657)]
noncomputable def hA:List Addr:=[3,21,26,33,40,45,50,142,149,156,163,170,177,184,191,196,203,210,215,222,229,236,243,248,253,258,265,272,279,284,289,296,303,310,315,320,327,334,341,20,25,32,39,44,49,141,148,155,162,169,176,183,190,195,202,209,214,221,228,235,242,247,252,257,264,271,278,283,288,295,302,309,314,319,326,333,340]
theorem hE(P:Params):hA=(hK P).map (·.1):=by kernel_rfl
theorem hX:(defOf (view pw Ju) PySem.Challenge.rw_uf030034_11.name).isSome=true:=by kernel_rfl
theorem hL(w:World):(openEnds treeTable pw w 5536).map (λs=>(openSeen (view pw Ju) [] (importedModules pw.main.body) (λs=>xlAt (view pw Ju) [] s&&recOk [] s) true s,hA.map s.heap.get?))=some (openGood (view pw Ju) [],(hK w.params).map λp=>some p.2):=by kernel_rfl
theorem hd(walk:WalkO (view pw Ju) [] (XL (view pw Ju) []) (kHook hK hA hE).says PySem.Challenge.rw_uf030034_11.row.toRowW ((defOf (view pw Ju) PySem.Challenge.rw_uf030034_11.name).get hX).1 ((defOf (view pw Ju) PySem.Challenge.rw_uf030034_11.name).get hX).2 λf vs=>PySem.call f vs):PySem.Challenge.rw_uf030034_11.Holds:=
 zHk (l:=PySem.Challenge.rw_uf030034_11) (keep:=Ju) hE (by decide+kernel) hL hX (by kernel_rfl) (by kernel_rfl) (by kernel_rfl) (by decide+kernel) ⟨by kernel_rfl,by kernel_rfl,by kernel_rfl,by kernel_rfl,by kernel_rfl,by decide+kernel⟩ ⟨[.list []],by decide+kernel,by decide+kernel⟩ walk
end
inductive LX where
 |v (i:Nat)
 |n (k:Nat)
 |a (x y:LX)
 |s (x y:LX)
 |m (k:Nat) (x:LX)
inductive LK where
 |le|lt|eq
structure LC where
 w:Int
 k:LK
 x:LX
 y:LX
noncomputable def zLg:List Int->Nat->Int
 |[],_=>0
 |x::_,0=>x
 |_::r,i+1=>zLg r i
noncomputable def atN:List Nat->Nat->Nat
 |[],_=>0
 |x::_,0=>x
 |_::r,i+1=>atN r i
noncomputable def LX.di (c:List Int):LX->Int
 |.v i=>zLg c i
 |.n k=>k
 |.a x y=>x.di c+y.di c
 |.s x y=>x.di c - y.di c
 |.m k x=>k*x.di c
noncomputable def LX.dn (c:List Nat):LX->Nat
 |.v i=>atN c i
 |.n k=>k
 |.a x y=>x.dn c+y.dn c
 |.s x y=>0
 |.m k x=>k*x.dn c
noncomputable def Mq:List Int->List Int->Int
 |c::cs,x::xs=>c*x+Mq cs xs
 |_,_=>0
noncomputable def Pg:List Int->List Int->List Int
 |[],y=>y
 |x,[]=>x
 |a::x,b::y=>(a+b)::Pg x y
noncomputable def Sh (k:Int):List Int->List Int
 |[]=>[]
 |a::x=>(k*a)::Sh k x
noncomputable def Vz:Nat->List Int
 |0=>[1]
 |i+1=>0::Vz i
noncomputable def LX.lin:LX->List Int
 |.v i=>0::Vz i
 |.n k=>[(k:Int)]
 |.a x y=>Pg x.lin y.lin
 |.s x y=>Pg x.lin (Sh (-1) y.lin)
 |.m k x=>Sh k x.lin
theorem Lz(c:List Int):Mq c []=0:=by cases c<;>rfl
theorem Kf:∀(x y c:List Int),Mq (Pg x y) c=Mq x c+Mq y c
 |[],y,c=>(Int.zero_add _).symm
 |a::x,[],c=>(Int.add_zero _).symm
 |a::x,b::y,[]=>by rw[Lz,Lz,Lz];rfl
 |a::x,b::y,z::c=>by
  show(a+b)*z+Mq (Pg x y) c=(a*z+Mq x c)+(b*z+Mq y c)
  rw[Kf x y c,Int.add_mul,Int.add_assoc,Int.add_left_comm (b*z),←Int.add_assoc]
theorem Lq(k:Int):∀(x c:List Int),Mq (Sh k x) c=k*Mq x c
 |[],c=>(Int.mul_zero k).symm
 |a::x,[]=>by rw[Lz,Lz,Int.mul_zero]
 |a::x,z::c=>by
  show k*a*z+Mq (Sh k x) c=k*(a*z+Mq x c)
  rw[Lq k x c,Int.mul_add,Int.mul_assoc]
theorem Uz:∀(i:Nat) (c:List Int),Mq (Vz i) c=zLg c i
 |0,[]=>rfl
 |0,z::c=>by show 1*z+0=z;rw[Int.one_mul,Int.add_zero]
 |i+1,[]=>rfl
 |i+1,z::c=>by show 0*z+Mq (Vz i) c=zLg c i;rw[Int.zero_mul,Int.zero_add];exact Uz i c
theorem L5(c:List Int):∀x:LX,Mq x.lin (1::c)=x.di c
 |.v i=>by show 0*1+Mq (Vz i) c=zLg c i;rw[Int.zero_mul,Int.zero_add];exact Uz i c
 |.n k=>by show(k:Int)*1+0=k;rw[Int.mul_one,Int.add_zero]
 |.a x y=>by show Mq (Pg x.lin y.lin) _=x.di c+y.di c;rw[Kf,L5 c x,L5 c y]
 |.s x y=>by show Mq (Pg x.lin (Sh (-1) y.lin)) _=x.di c - y.di c;rw[Kf,Lq,L5 c x,L5 c y,Int.neg_mul,Int.one_mul];rfl
 |.m k x=>by show Mq (Sh k x.lin) _=k*x.di c;rw[Lq,L5 c x]
noncomputable def O0:LX->Bool
 |.a x y=>O0 x&&O0 y
 |.s _ _=>false
 |.m _ x=>O0 x
 |_=>true
theorem zAS:∀(c:List Nat) (i:Nat),zLg (c.map λ(n:Nat)=>(n:Int)) i=(atN c i:Int)
 |[],i=>rfl
 |x::c,0=>rfl
 |x::c,i+1=>zAS c i
theorem G3(c:List Nat):∀x:LX,O0 x=true->x.di (c.map λ(n:Nat)=>(n:Int))=(x.dn c:Int)
 |.v i,_=>zAS c i
 |.n k,_=>rfl
 |.a x y,h=>by
  have h:=lD1.mp (show(O0 x&&O0 y)=true from h);show x.di _+y.di _=((x.dn c+y.dn c:Nat):Int)
  rw[G3 c x h.1,G3 c y h.2];rfl
 |.s _ _,h=>by cases h
 |.m k x,h=>by show(k:Int)*x.di _=((k*x.dn c:Nat):Int);rw[G3 c x h];exact(lI9 _ _).symm
noncomputable def LC.row (c:LC):List Int:=Sh c.w (Pg (match c.k with
 |.lt=>[-1]
 |_=>[]) (Pg c.y.lin (Sh (-1) c.x.lin)))
noncomputable def zHe:List LC->List Int
 |[]=>[]
 |c::r=>Pg c.row (zHe r)
noncomputable def zNy (c:LC):Bool:=match c.k with
 |.eq=>true
 |_=>decide (0<=c.w)
noncomputable def zJB:List Int->Bool
 |[]=>false
 |a::r=>decide (a<0)&&r.all (λb=>decide (b=0))
noncomputable def zHM (cs:List LC):Bool:=zJB (zHe cs)&&cs.all zNy
noncomputable def Vp (cs:List LC):Bool:=zHM cs&&cs.all λc=>O0 c.x&&O0 c.y
noncomputable def LC.holdsI (l:List Int)(c:LC):Prop:=match c.k with
 |.le=>c.x.di l<=c.y.di l
 |.lt=>c.x.di l<c.y.di l
 |.eq=>c.x.di l=c.y.di l
noncomputable def LC.holdsN (l:List Nat)(c:LC):Prop:=match c.k with
 |.le=>c.x.dn l<=c.y.dn l
 |.lt=>c.x.dn l<c.y.dn l
 |.eq=>c.x.dn l=c.y.dn l
noncomputable def zHi (l:List Int):List LC->Prop
 |[]=>False
 |c::r=>c.holdsI l->zHi l r
noncomputable def zGe (l:List Nat):List LC->Prop
 |[]=>False
 |c::r=>c.holdsN l->zGe l r
theorem zAe{r:List Int}(h:zJB r=true)(l:List Int):Mq r (1::l)<0:=by
 cases r with
 |nil=>cases h
 |cons a r=>
  have h:=lD1.mp (show(decide (a<0)&&r.all (λb=>decide (b=0)))=true from h)
  rw[lH2,lH7]at h;have h:a<0/\∀b,b∈r->b=0:=⟨h.1,λb m=>lH3 (h.2 b m)⟩
  have z:∀(r l:List Int),(∀b,b∈r->b=0)->Mq r l=0:=by
   intro r
   induction r with
   |nil=>intro l _;cases l<;>rfl
   |cons b r ih=>
    intro l hb
    cases l with
    |nil=>rfl
    |cons z l=>show b*z+Mq r l=0;rw[hb b lq1,ih l λb m=>hb b (lq4 _ m),Int.zero_mul];rfl
  show a*1+Mq r l<0
  rw[z r l λb m=>h.2 b m,Int.mul_one,Int.add_zero];exact h.1
theorem Y6{l:List Int}{c:LC}(h:c.holdsI l)(w:zNy c=true):0<=Mq c.row (1::l):=by
 obtain⟨k,kd,x,y⟩:=c;unfold LC.row;rw[Lq,Kf,Kf,Lq,L5,L5];dsimp only
 cases kd with
 |le=>
  have h:x.di l<=y.di l:=h
  have w:0<=k:=lH3 w
  exact Int.mul_nonneg w (by show 0<=0+(_+ -1*_);omega)
 |lt=>
  have h:x.di l<y.di l:=h
  have w:0<=k:=lH3 w
  exact Int.mul_nonneg w (by show 0<=(-1*1+0)+(_+ -1*_);omega)
 |eq=>
  have h:x.di l=y.di l:=h
  have:Mq [] (1::l)+(y.di l+ -1*x.di l)=0:=by show 0+(y.di l+ -1*x.di l)=0;omega
  show 0<=k*(Mq [] (1::l)+(y.di l+ -1*x.di l))
  rw[this];simp
theorem zAN{l:List Int}:∀(cs:List LC),((∀c,c∈cs->c.holdsI l)->False)->zHi l cs
 |[],h=>h λ_ m=>nomatch m
 |c::r,h=>λhc=>zAN r λhr=>h λd m=>by
  rcases lL5.mp m with rfl|m
  ·exact hc
  ·exact hr d m
theorem Kz{l:List Int}:∀(cs:List LC),(∀c,c∈cs->c.holdsI l)->cs.all zNy=true->0<=Mq (zHe cs) (1::l)
 |[],_,_=>lN3 0
 |c::r,h,w=>by
  simp only[List.all_cons,lH6]at w;have:=Kz r (λc m=>h c (lq4 _ m)) w.2
  have:=Y6 (h c lq1) w.1
  show 0<=Mq (Pg c.row (zHe r)) _
  rw[Kf];omega
theorem Az(l:List Int)(cs:List LC)(h:zHM cs=true):zHi l cs:=zAN cs λhs=>by
 have h:=lD1.mp h;exact Int.lt_irrefl _ (lE8 (Kz cs hs h.2) (zAe h.1 l))
theorem zAG{l:List Nat}:∀(cs:List LC),((∀c,c∈cs->c.holdsN l)->False)->zGe l cs
 |[],h=>h λ_ m=>nomatch m
 |c::r,h=>λhc=>zAG r λhr=>h λd m=>by
  rcases lL5.mp m with rfl|m
  ·exact hc
  ·exact hr d m
theorem An(l:List Nat)(cs:List LC)(h:Vp cs=true):zGe l cs:=zAG cs λhs=>by
 simp only[Vp,zHM,lH6,lH7]at h;refine Int.lt_irrefl _ (lE8 (Kz (l:=l.map λ(n:Nat)=>(n:Int)) cs (λc m=>?_) (lH7.mpr h.1.2)) (zAe h.1.1 _))
 have q:=hs c m;have n:=h.2 c m;obtain⟨k,kd,x,y⟩:=c
 cases kd with
 |le=>
  have q:x.dn l<=y.dn l:=q
  show x.di _<=y.di _
  rw[G3 l x n.1,G3 l y n.2];omega
 |lt=>
  have q:x.dn l<y.dn l:=q
  show x.di _<y.di _
  rw[G3 l x n.1,G3 l y n.2];omega
 |eq=>
  have q:x.dn l=y.dn l:=q
  show x.di _=y.di _
  rw[G3 l x n.1,G3 l y n.2];omega
theorem X6{a b:Nat}(h:b<a->False):a<=b:=Nat.le_of_not_lt h
theorem zE5{a b:Nat}(h:b<=a->False):a<b:=Nat.lt_of_not_le h
theorem Du{a b:Nat}(h1:a<b->False)(h2:b<a->False):a=b:=lJ7 (X6 h2) (X6 h1)
theorem Zd{a b:Int}(h:b<a->False):a<=b:=lN6.mp h
theorem zLj{a b:Int}(h:b<=a->False):a<b:=Int.not_le.mp h
theorem Kl{a b:Int}(h1:a<b->False)(h2:b<a->False):a=b:=Int.le_antisymm (Zd h2) (Zd h1)
theorem Eb(a b:Nat):a - b<=a:=Nat.sub_le a b
theorem Ao(a b:Nat):a<=(a - b)+b:=by omega
theorem Aq{a b:Nat}(h:b<=a):(a - b)+b=a:=Nat.sub_add_cancel h
theorem N4(a:Nat)(k:Nat):k*(a / k)<=a:=Nat.mul_div_le a k
theorem Sy(a:Nat){k:Nat}(h:0<k):a<k*(a / k)+k:=by have:=Nat.lt_mul_div_succ a h;rw[Nat.mul_add,Nat.mul_one]at this;exact this
noncomputable abbrev x0:LX:=.v 0
noncomputable abbrev x1:LX:=.v 1
noncomputable abbrev x2:LX:=.v 2
noncomputable abbrev x3:LX:=.v 3
noncomputable abbrev x4:LX:=.v 4
noncomputable abbrev x5:LX:=.v 5
noncomputable abbrev x6:LX:=.v 6
noncomputable abbrev x7:LX:=.v 7
noncomputable abbrev Ac (x y:LX):LC:=⟨1,.le,x,y⟩
noncomputable abbrev Ae (x y:LX):LC:=⟨1,.lt,x,y⟩
noncomputable abbrev eq1 (x y:LX):LC:=⟨1,.eq,x,y⟩
noncomputable abbrev Cz (x y:LX):LC:=⟨-1,.eq,x,y⟩
noncomputable abbrev Qe (w:Int)(x y:LX):LC:=⟨w,.le,x,y⟩
noncomputable abbrev Zx (w:Int)(x y:LX):LC:=⟨w,.lt,x,y⟩
noncomputable abbrev zNc (w:Int)(x y:LX):LC:=⟨w,.eq,x,y⟩
theorem Cc{a b:Nat}(h:a<=b):(a:Int)<=(b:Int):=Int.ofNat_le.mpr h
theorem F1{a b:Nat}(h:a<b):(a:Int)<(b:Int):=Int.ofNat_lt.mpr h
theorem M9{a b:Nat}(h:a=b):(a:Int)=(b:Int):=lO2 _ h
theorem G9{a b:Nat}(h:(a:Int)<=(b:Int)):a<=b:=Int.ofNat_le.mp h
theorem Jf{a b:Nat}(h:(a:Int)<(b:Int)):a<b:=Int.ofNat_lt.mp h
theorem Nh{a b:Nat}(h:(a:Int)=(b:Int)):a=b:=Int.ofNat.inj h
theorem Hy(x:Int):x<=(x.toNat:Int):=Int.self_le_toNat x
theorem D5{x:Int}(h:0<=x):(x.toNat:Int)=x:=Int.toNat_of_nonneg h
theorem O1{a b:Nat}(h:(b:Int)<=(a:Int)):((a - b:Nat):Int)+(b:Int)=(a:Int):=by omega
theorem cast_nn(n:Nat):(0:Int)<=(n:Int):=Int.natCast_nonneg n
theorem yo{B:Prop}(h:∀G:Prop,(B->G)->G):B:=h B id
theorem lk{n a b:Nat}(h:n<=a)(hb:Nat.ble a b=true):n<=b:=lM7 h (Nat.le_of_ble_eq_true hb)
theorem zAm{n a b:Nat}(h:n<=a)(hb:Nat.blt a b=true):n<b:=lF3 h (Nat.le_of_ble_eq_true hb)
theorem zN9{n a b:Nat}(h:a<=n)(hb:Nat.ble b a=true):b<=n:=lM7 (Nat.le_of_ble_eq_true hb) h
theorem zOS{n m a b:Nat}(h:n<=a)(h2:b<=m)(hb:Nat.ble a b=true):n<=m:=lM7 h (zN9 h2 hb)
theorem ik{n a b:Int}(h:n<=a)(hb:decide (a<=b)=true):n<=b:=lM2 h (lH3 hb)
theorem zDH{n a b:Int}(h:n<=a)(hb:decide (a<b)=true):n<b:=lE8 h (lH3 hb)
theorem zDI{n a b:Int}(h:a<=n)(hb:decide (b<=a)=true):b<=n:=lM2 (lH3 hb) h
theorem zN5{n a b:Int}(h:a<=n)(hb:decide (b<a)=true):b<n:=Int.lt_of_lt_of_le (lH3 hb) h
theorem zM7(a b:Int):a+(b - a)=b:=by omega
noncomputable def ng:LC->LC
 |⟨w,.le,x,y⟩=>⟨w,.lt,y,x⟩
 |⟨w,.lt,x,y⟩=>⟨w,.le,y,x⟩
 |⟨_,.eq,x,y⟩=>⟨-1,.le,y,x⟩
noncomputable def zIp (l:List Nat)(p:Prop):List LC->Prop
 |[]=>p
 |c::r=>c.holdsN l->zIp l p r
noncomputable def zJM (l:List Int)(p:Prop):List LC->Prop
 |[]=>p
 |c::r=>c.holdsI l->zJM l p r
theorem Y3{l:List Nat}{p q:Prop}(hq:(q->False)->p):∀(cs:List LC),(q->zGe l cs)->zIp l p cs
 |[],h=>hq h
 |_::r,h=>λhc=>Y3 hq r λg=>h g hc
theorem Zb{l:List Int}{p q:Prop}(hq:(q->False)->p):∀(cs:List LC),(q->zHi l cs)->zJM l p cs
 |[],h=>hq h
 |_::r,h=>λhc=>Zb hq r λg=>h g hc
theorem gI(l:List Int)(g:LC)(cs:List LC)(h:zHM (ng g::cs)=true):zJM l (g.holdsI l) cs:=by
 obtain⟨w,k,x,y⟩:=g
 cases k with
 |le=>exact Zb (q:=y.di l<x.di l) Zd cs (Az l _ h)
 |lt=>exact Zb (q:=y.di l<=x.di l) zLj cs (Az l _ h)
 |eq=>exact absurd (lH7.mp (lD1.mp h).2 _ lq1) (show¬(decide ((0:Int)<= -1)=true)by decide)
theorem gN(l:List Nat)(g:LC)(cs:List LC)(h:Vp (ng g::cs)=true):zIp l (g.holdsN l) cs:=by
 obtain⟨w,k,x,y⟩:=g
 cases k with
 |le=>exact Y3 (q:=y.dn l<x.dn l) X6 cs (An l _ h)
 |lt=>exact Y3 (q:=y.dn l<=x.dn l) zE5 cs (An l _ h)
 |eq=>exact absurd (lH7.mp (lD1.mp (lD1.mp h).1).2 _ lq1) (show¬(decide ((0:Int)<= -1)=true)by decide)
theorem X7{a:Nat}(g:LC)(cs:List LC)(h:Vp (ng g::cs)=true):zIp [a] (g.holdsN [a]) cs:=gN _ g cs h
theorem Cp{a b:Nat}(g:LC)(cs:List LC)(h:Vp (ng g::cs)=true):zIp [a,b] (g.holdsN [a,b]) cs:=gN _ g cs h
theorem Ck{a b c:Nat}(g:LC)(cs:List LC)(h:Vp (ng g::cs)=true):zIp [a,b,c] (g.holdsN [a,b,c]) cs:=gN _ g cs h
theorem Cd{a b c d:Nat}(g:LC)(cs:List LC)(h:Vp (ng g::cs)=true):zIp [a,b,c,d] (g.holdsN [a,b,c,d]) cs:=gN _ g cs h
theorem Mr{a b c d e:Nat}(g:LC)(cs:List LC)(h:Vp (ng g::cs)=true):zIp [a,b,c,d,e] (g.holdsN [a,b,c,d,e]) cs:=gN _ g cs h
theorem H6{a:Int}(g:LC)(cs:List LC)(h:zHM (ng g::cs)=true):zJM [a] (g.holdsI [a]) cs:=gI _ g cs h
theorem Vt{a b:Int}(g:LC)(cs:List LC)(h:zHM (ng g::cs)=true):zJM [a,b] (g.holdsI [a,b]) cs:=gI _ g cs h
theorem zIX{a b c:Int}(g:LC)(cs:List LC)(h:zHM (ng g::cs)=true):zJM [a,b,c] (g.holdsI [a,b,c]) cs:=gI _ g cs h
theorem zN7{a b c d:Int}(g:LC)(cs:List LC)(h:zHM (ng g::cs)=true):zJM [a,b,c,d] (g.holdsI [a,b,c,d]) cs:=gI _ g cs h
theorem zNq{a b c d e:Int}(g:LC)(cs:List LC)(h:zHM (ng g::cs)=true):zJM [a,b,c,d,e] (g.holdsI [a,b,c,d,e]) cs:=gI _ g cs h
example {a b c:Nat}(h1:a+1<=b) (h2:b<c):a<c:=by exact Ck (Ae x0 x2) [Ac (.a x0 (.n 1)) x1,Ae x1 x2] rT h1 h2
theorem size_runs{M:Model}{Γ:Ctx}{p:Pos}{t:Sem Fin}{fs:List Frame}{s s':Shared}{e:End}(h:Runs M Γ p t fs s e s'):s.heap.objs.size<=s'.heap.objs.size:=by
 induction h<;>(try simp only[Shared.setGen,lK7,Heap.size_after_update]at*)<;>first|assumption|exact lN4 _|exact Nat.le_of_succ_le (by assumption)|exact lM7 (by assumption) (by assumption)|omega
theorem Xb{M:Model}{Γ:Ctx}{p:Pos}{g:Nat}{r:Resume}{s s':Shared}{res:GenResult}(h:Wakes M Γ p g r s res s'):s.heap.objs.size<=s'.heap.objs.size:=by
 have go:∀{Γ' p' t fs e₁ s₁ gs},Runs M Γ' p' t fs (s.setGen g .running) e₁ s₁->s'=s₁.setGen g gs->s.heap.objs.size<=s'.heap.objs.size:=λ{_ _ _ _ _ s₁ _} hr e=>by rw[e];exact(size_runs hr:(s.setGen g .running).heap.objs.size<=s₁.heap.objs.size)
 have st:s'=s->s.heap.objs.size<=s'.heap.objs.size:=λe=>by rw[e];exact lN4 _
 unfold Wakes at h
 cases hg:s.gens[g]? with
 |none=>rw[hg]at h;exact h.elim
 |some q=>
  rw[hg]at h
  cases q with
  |fresh c=>cases r with
   |send v=>cases v<;>first|exact st h.2|(obtain⟨e₁,s₁,hr,_,_,e⟩:=h;exact go hr e)
   |throw x=>rw[h.2];exact lN4 _
  |suspended k l c p fs b=>obtain⟨e₁,s₁,hr,_,_,e⟩:=h;exact go hr e
  |running=>exact st h.2
  |finished=>exact st h.2
theorem zIE{α:Type}(M:Model)(Γ:Ctx)(n:Nat)(t:Sem α):∀(Q:α->Pos->Shared->Prop) (E:Value->Pos->Shared->Prop) (p:Pos) (s:Shared),n<=s.heap.objs.size->Sem.wp M Γ t Q E p s->
  Sem.wp M Γ t (λa p' s'=>n<=s'.heap.objs.size/\Q a p' s') (λe p' s'=>n<=s'.heap.objs.size/\E e p' s') p s:=by
 induction t with
 |pure a=>intro Q E p s hn h;exact⟨hn,h⟩
 |raise e=>intro Q E p s hn h;exact⟨hn,h⟩
 |unsupported _=>intro Q E p s _ h;exact h
 |finish _=>intro Q E p s _ h;exact h
 |rule _ k ih=>intro Q E p s hn h;exact ih () Q E p s hn h
 | «at» p' k ih=>intro Q E p s hn h;exact ih () Q E p' s hn h
 |load a _ k ih=>intro Q E p s hn h;obtain⟨o,ho,h⟩:=h;exact⟨o,ho,ih o Q E p s hn h⟩
 |update a _ f k ih=>intro Q E p s hn h;exact⟨h.1,ih () Q E p _ (by rw[Heap.size_after_update];exact hn) h.2⟩
 |loadIfAlive a k ih=>intro Q E p s hn h;exact ih _ Q E p s hn h
 |point _ k ih=>intro Q E p s hn h;exact ih () Q E p s hn h
 |register _ _=>intro Q E p s _ h;exact h
 |alloc o k ih=>intro Q E p s hn h;exact ih _ Q E p _ (by rw[lK7];exact Nat.le_add_right_of_le hn) h
 |fresh k ih=>intro Q E p s hn h;exact ih _ Q E p _ hn h
 |ask k ih=>intro Q E p s hn h;exact ih _ Q E p s hn h
 |choose src m k ih=>intro Q E p s hn h;exact⟨h.1,ih _ Q E p _ hn h.2⟩
 |os q _ k ih=>intro Q E p s hn h;exact ih _ Q E p _ hn h
 |call c hd _ _ k ih=>intro Q E p s hn h;obtain⟨r,s',hr,h⟩:=h;exact⟨r,s',hr,ih r Q E p s' (lM7 hn (size_runs hr)) h⟩
 |handled own k ih=>intro Q E p s hn h;exact ih _ Q E p s hn h
 |genState g k ih=>intro Q E p s hn h;obtain⟨st,hs,h⟩:=h;exact⟨st,hs,ih _ Q E p s hn h⟩
 |newGen c k ih=>intro Q E p s hn h;exact ih _ Q E p _ hn h
 |resume g r _ k ih=>intro Q E p s hn h;obtain⟨res,s',hw,h⟩:=h;exact⟨res,s',hw,ih res Q E p s' (lM7 hn (Xb hw)) h⟩
 |yield _ _ _ _=>intro Q E p s _ h;exact h
 |stack k ih=>intro Q E p s hn h;exact ih _ Q E p s hn h
 |fork _ _=>intro Q E p s _ h;exact h
 |thread k ih=>intro Q E p s hn h;exact ih _ Q E p s hn h
 |await _ _ _ _ _=>intro Q E p s _ h;exact h
theorem Lg{α:Type}{M:Model}{A:Around}{s:Shared}{t:Sem α}{Q:α->Shared->Prop}{E:Value->Shared->Prop}(h:wpAny M A t Q E s):
  wpAny M A t (λa s'=>s.heap.objs.size<=s'.heap.objs.size/\Q a s') (λe s'=>s.heap.objs.size<=s'.heap.objs.size/\E e s') s:=
 fun Γ p hΓ=>zIE M Γ _ t _ _ p s (lN4 _) (h Γ p hΓ)
inductive D where
 |none
 |bool (b:Bool)
 |int (i:Int)
 |str (s:Str)
 |tup (ds:List D)
 |ref (k:Nat)
 |scr (ns:List Int)
inductive PO where
 |list (ds:List D)
 |dict (ks:List (List Int))
 |priv
 |ctab (P:Addr) (l c:Nat) (q:Str) (k:Option Nat)
 |code (q:Str)
noncomputable abbrev C3:=List PO
noncomputable abbrev Bm:=Nat->Option D
structure St where
 loc:Bm
 sto:C3
inductive Re (α:Type) where
 |ok (a:α) (st:St)
 |bot
noncomputable abbrev Mn (α:Type):=St->Re α
noncomputable def A8 {α:Type}(a:α):Mn α:=λst=>.ok a st
noncomputable def Af {α β:Type}(m:Mn α)(f:α->Mn β):Mn β:=λst=>match m st with
 |.ok a st'=>f a st'
 |.bot=>.bot
noncomputable def botM {α:Type}:Mn α:=λ_=>.bot
inductive Fl where
 |next|brk|cont
 |ret (d:D)
inductive Bs {α β:Type}(R:α->β->Prop):List α->List β->Prop
 |nil:Bs R [] []
 |cons {a b l l'}:R a b->Bs R l l'->Bs R (a::l) (b::l')
theorem Bs.length{α β:Type}{R:α->β->Prop}{l:List α}{l':List β}(h:Bs R l l'):l.length=l'.length:=by
 induction h with
 |nil=>rfl
 |cons _ _ ih=>simp[ih]
theorem Bs.append{α β:Type}{R:α->β->Prop}{l₁ l₂:List α}{l₁' l₂':List β}(h:Bs R l₁ l₁')(g:Bs R l₂ l₂'):Bs R (l₁++l₂) (l₁'++l₂'):=by
 induction h with
 |nil=>exact g
 |cons x _ ih=>exact .cons x ih
theorem Bs.get{α β:Type}{R:α->β->Prop}{l:List α}{l':List β}(h:Bs R l l'):∀(i:Nat) (b:β),l'[i]? =some b->∃a,l[i]? =some a/\R a b:=by
 induction h with
 |nil=>intro i b e;simp at e
 |cons x _ ih=>
  intro i b e
  cases i with
  |zero=>simp at e;subst e;exact⟨_,by simp,x⟩
  |succ i=>simp at e;obtain⟨a,ha,r⟩:=ih i b e;exact⟨a,by simpa using ha,r⟩
theorem Bs.take{α β:Type}{R:α->β->Prop}{l:List α}{l':List β}(h:Bs R l l'):∀n,Bs R (l.take n) (l'.take n):=by
 induction h with
 |nil=>intro n;simp;exact .nil
 |cons x _ ih=>intro n;cases n with
  |zero=>simp;exact .nil
  |succ n=>simp;exact .cons x (ih n)
theorem Bs.drop{α β:Type}{R:α->β->Prop}{l:List α}{l':List β}(h:Bs R l l'):∀n,Bs R (l.drop n) (l'.drop n):=by
 induction h with
 |nil=>intro n;simp;exact .nil
 |cons x h ih=>intro n;cases n with
  |zero=>simp;exact .cons x h
  |succ n=>simpa using ih n
theorem Bs.set{α β:Type}{R:α->β->Prop}{l:List α}{l':List β}(h:Bs R l l'){a:α}{b:β}(r:R a b):∀i,Bs R (l.set i a) (l'.set i b):=by
 induction h with
 |nil=>intro i;simp;exact .nil
 |cons x h ih=>intro i;cases i with
  |zero=>simp;exact .cons r h
  |succ i=>simp;exact .cons x (ih i)
structure Gd where
 prog:Program
 w:World
 h0:Heap
 os0:OsState
 gens0:Array GenState
noncomputable abbrev E5 (vs:Array Value)(n:Nat):Obj:={cls:=.type "list",dict:=none,data:=.seq vs n,slots:= #[]}
noncomputable abbrev Xk (vs:Array Value)(n:Nat):Obj:={cls:=.type "tuple",dict:=none,data:=.seq vs n,slots:= #[]}
noncomputable def Mt (h:Heap)(a:Addr)(items:Array Value):Prop:=∃n,h.get? a=some (Xk items n)
noncomputable def Jq (h:Heap)(a:Addr)(items:Array Value):Prop:=∃n,h.get? a=some (E5 items n)
theorem Go{vs vs':Array Value}{n n':Nat}:Xk vs n≠E5 vs' n':=λh=>by
 have:=lO2 Obj.cls h
 simp at this
theorem Jq.list{h:Heap}{a:Addr}{vs:Array Value}(x:Jq h a vs):h.IsList a vs:=by obtain⟨n,e⟩:=x;exact⟨_,e,rfl,n,rfl⟩
noncomputable def Dc (vs:List Value)(ns:List Int):Prop:=Bs (λv n=>∃t,v=Value.int n t) vs ns
inductive zNx (h:Heap)(ρ:List Addr)(P:List Value->Prop)(v:Value):Prop
 |mk (a:Addr) (vs:Array Value) (e:v=.ref a) (n:a∉ρ) (t:Mt h a vs) (r:P vs.toList)
inductive zNk (G:Gd)(ns:List Int)(v:Value):Prop
 |mk (a:Addr) (vs:Array Value) (e:v=.ref a) (l:G.h0.IsList a vs) (i:Dc vs.toList ns)
inductive zMr (P:Value->Prop)(Q:List Value->Prop)(vs:List Value):Prop
 |mk (v:Value) (r:List Value) (e:vs=v::r) (p:P v) (q:Q r)
mutual
noncomputable def Cr (G:Gd)(h:Heap)(ρ:List Addr):D->Value->Prop
 |.none,v=>v=.none
 |.bool b,v=>v=.bool b
 |.int i,v=>∃t,v=.int i t
 |.str s,v=>∃t,v=.str s t
 |.tup ds,v=>zNx h ρ (λvs=>Ay G h ρ ds vs) v
 |.ref k,v=>∃a,v=.ref a/\ρ[k]? =some a
 |.scr ns,v=>zNk G ns v
noncomputable def Ay (G:Gd)(h:Heap)(ρ:List Addr):List D->List Value->Prop
 |[],vs=>vs=[]
 |d::ds,vs=>zMr (λv=>Cr G h ρ d v) (λr=>Ay G h ρ ds r) vs
end
theorem Ay.all2{G:Gd}{h:Heap}{ρ:List Addr}:∀{ds:List D}{vs:List Value},Ay G h ρ ds vs->Bs (λv d=>Cr G h ρ d v) vs ds
 |[],vs,e=>by subst e;exact .nil
 |d::ds,vs,e=>by
  obtain⟨v,r,rfl,h1,h2⟩:=e;exact .cons h1 (Ay.all2 h2)
theorem Ay.of_all2{G:Gd}{h:Heap}{ρ:List Addr}{ds:List D}{vs:List Value}(x:Bs (λv d=>Cr G h ρ d v) vs ds):Ay G h ρ ds vs:=by
 induction x with
 |nil=>exact rfl
 |cons a _ ih=>exact⟨_,_,rfl,a,ih⟩
structure Lh (h:Heap)(ρ:List Addr)(h':Heap)(ρ':List Addr):Prop where
 pre:∀(k:Nat) (a:Addr),ρ[k]? =some a->ρ'[k]? =some a
 tup:∀a items,a∉ρ->Mt h a items->a∉ρ'/\Mt h' a items
mutual
theorem Cr.mono{G:Gd}{h h':Heap}{ρ ρ':List Addr}(S:Lh h ρ h' ρ'):∀(d:D) (v:Value),Cr G h ρ d v->Cr G h' ρ' d v
 |.none,_,e=>e
 |.bool _,_,e=>e
 |.int _,_,e=>e
 |.str _,_,e=>e
 |.tup ds,v,e=>by
  obtain⟨a,vs,e1,n,e2,e3⟩:=e;obtain⟨n',e2'⟩:=S.tup _ _ n e2;exact⟨a,vs,e1,n',e2',Ay.mono S ds _ e3⟩
 |.ref k,v,e=>by
  obtain⟨a,e1,e2⟩:=e;exact⟨a,e1,S.pre _ _ e2⟩
 |.scr _,_,e=>e
theorem Ay.mono{G:Gd}{h h':Heap}{ρ ρ':List Addr}(S:Lh h ρ h' ρ'):∀(ds:List D) (vs:List Value),Ay G h ρ ds vs->Ay G h' ρ' ds vs
 |[],_,e=>e
 |d::ds,vs,e=>by
  obtain⟨v,r,e1,e2,e3⟩:=e;exact⟨v,r,e1,Cr.mono S d v e2,Ay.mono S ds r e3⟩
end
noncomputable def N3 (h:Heap)(a:Addr)(k:List Int):Prop:=∃vs,Mt h a vs/\Dc vs.toList k
noncomputable abbrev Jt (G:Gd):HeapKind G.prog G.w (List Int):=tupleKind (intKind G.prog G.w)
noncomputable abbrev zNe (ps:Array Value):Obj:={cls:=.none,data:=.fields ps}
noncomputable def zJ9 (h:Heap)(ρ:List Addr)(a:Addr)(l c:Nat):Option Nat->Prop
 |none=>h.get? a=some (zNe #[])
 |some k=>∃c',ρ[k]? =some c'/\h.get? a=some (zNe #[rawInt l,rawInt c,.ref c'])
noncomputable def zAb (h:Heap)(a:Addr)(q:Str):Prop:=∃o vs t,h.get? a=some o∧o.cls=.type "code"∧o.data=.fields vs∧vs[1]? =some (.str q t)
noncomputable def zFs (h:Heap)(a:Addr):Prop:=∃x y,h.get? a=some (Xk #[x,y] 0)
noncomputable def L4 (G:Gd)(h:Heap)(ρ:List Addr)(a:Addr):PO->Prop
 |.list ds=>∃vs,Jq h a vs/\Ay G h ρ ds vs.toList
 |.dict ks=>∃xs,h.DictOfH (Jt G) a xs/\(a==sysModules)=false/\xs.map (·.1)=ks/\∀x,x∈xs->x.2.1∉ρ/\N3 h x.2.1 x.1
 |.priv=>zFs h a
 |.ctab P l c _ k=>a=P/\zJ9 h ρ a l c k
 |.code q=>zAb h a q
structure Dg (G:Gd)(s:Shared)(ρ:List Addr)(σ:C3):Prop where
 base:∀b o,G.h0.get? b=some o->s.heap.get? b=some o
 new:∀a,a∈ρ->G.h0.get? a=none
 nodup:ρ.Nodup
 len:ρ.length=σ.length
 sto:∀(k:Nat) (a:Addr) (o:PO),ρ[k]? =some a->σ[k]? =some o->L4 G s.heap ρ a o
 os:s.os=G.os0
 gens:s.gens=G.gens0
noncomputable def G6 (o o':Obj):Prop:=o'.cls=o.cls/\o'.data=o.data/\o'.dict=o.dict/\((∃es n,o.data=.dict es n)∨o'.slots=o.slots)
theorem G6.refl(o:Obj):G6 o o:=⟨rfl,rfl,rfl,.inr rfl⟩
theorem G6.trans{a b c:Obj}(x:G6 a b)(y:G6 b c):G6 a c:=
 ⟨y.1.trans x.1,y.2.1.trans x.2.1,y.2.2.1.trans x.2.2.1,x.2.2.2.elim .inl λe=>y.2.2.2.elim (λ⟨es,n,z⟩=>.inl ⟨es,n,x.2.1▸z⟩) λe'=>.inr (e'.trans e)⟩
theorem G6.eq{o o':Obj}(x:G6 o o')(h:∀es n,o.data≠.dict es n):o'=o:=by
 obtain⟨c,d,dt,sl⟩:=o;obtain⟨c',d',dt',sl'⟩:=o';obtain⟨h1,h2,h3,h4⟩:=x;simp only at h1 h2 h3 h4
 rcases h4 with⟨es,n,z⟩|h4
 ·exact absurd z (h es n)
 ·subst h1 h2 h3 h4;rfl
structure Ev (P:List Addr)(h:Heap)(ρ:List Addr)(h':Heap)(ρ':List Addr):Prop where
 pre:∀(k:Nat) (a:Addr),ρ[k]? =some a->ρ'[k]? =some a
 keep:∀b o,h.get? b=some o->b∉ρ->b∉P->∃o',h'.get? b=some o'/\G6 o o'
 newp:∀a,a∈ρ'->a∈ρ∨h.objs.size<=a
 size:h.objs.size<=h'.objs.size
theorem Ev.refl{P:List Addr}{h:Heap}{ρ:List Addr}:Ev P h ρ h ρ:=⟨λ_ _ e=>e,λ_ o e _ _=>⟨o,e,.refl o⟩,λ_ e=>.inl e,lN4 _⟩
theorem Ev.notin'{P:List Addr}{h h':Heap}{ρ ρ':List Addr}(x:Ev P h ρ h' ρ'){b:Addr}(e:b<h.objs.size)(n:b∉ρ):b∉ρ':=
 λm=>(x.newp b m).elim n λz=>lL7 _ (lF5 e z)
theorem Ev.notin{P:List Addr}{h h':Heap}{ρ ρ':List Addr}(x:Ev P h ρ h' ρ'){b:Addr}{o:Obj}(e:h.get? b=some o)(n:b∉ρ):b∉ρ':=x.notin' (lM0 e) n
theorem Ev.trans{P:List Addr}{h h₁ h₂:Heap}{ρ ρ₁ ρ₂:List Addr}(x:Ev P h ρ h₁ ρ₁)(y:Ev P h₁ ρ₁ h₂ ρ₂):Ev P h ρ h₂ ρ₂ where
 pre k a e:=y.pre k a (x.pre k a e)
 keep b o e n1 n2:=by
  obtain⟨o',e',q⟩:=x.keep b o e n1 n2;obtain⟨o'',e'',q'⟩:=y.keep b o' e' (x.notin e n1) n2;exact⟨o'',e'',q.trans q'⟩
 newp a m:=(y.newp a m).elim (λm'=>x.newp a m') λz=>.inr (lM7 x.size z)
 size:=lM7 x.size y.size
theorem Ev.more{P P':List Addr}{h h':Heap}{ρ ρ':List Addr}(x:Ev P h ρ h' ρ')(hs:∀p,p∈P->p∈P'):Ev P' h ρ h' ρ':=
 ⟨x.pre,λb o e n1 n2=>x.keep b o e n1 λm=>n2 (hs b m),x.newp,x.size⟩
theorem Ev.nil{P:List Addr}{h h':Heap}{ρ ρ':List Addr}(x:Ev [] h ρ h' ρ'):Ev P h ρ h' ρ':=x.more λ_ m=>nomatch m
theorem Ev.less{P P':List Addr}{h h':Heap}{ρ ρ':List Addr}(x:Ev P' h ρ h' ρ')(hs:∀p,p∈P'->p∈P∨h.objs.size<=p):Ev P h ρ h' ρ':=
 ⟨x.pre,λb o e n1 n2=>x.keep b o e n1 λm=>(hs b m).elim n2 λz=>lL7 _ (lF5 (lM0 e) z),x.newp,x.size⟩
noncomputable def NT (h:Heap)(P:List Addr):Prop:=∀p,p∈P->∃o,h.get? p=some o/\((∃es n,o.data=.dict es n)∨(∃v,o.data=.cell v)∨∃vs n,o=E5 vs n)
theorem NT.nil{h:Heap}:NT h []:=λ_ m=>nomatch m
noncomputable def zMp (h:Heap)(ρ P:List Addr):Prop:=∀p,p∈P->p∉ρ->∀vs n,h.get? p≠some (Xk vs n)
theorem zMp.nil{h:Heap}{ρ:List Addr}:zMp h ρ []:=λ_ m=>nomatch m
theorem NT.t{h:Heap}{ρ P:List Addr}(N:NT h P):zMp h ρ P:=λa m _ vs n ho=>by
 obtain⟨o',ho',z⟩:=N a m;rw[ho]at ho';cases ho';rcases z with⟨_,_,z⟩|⟨_,z⟩|⟨_,_,z⟩
 ·cases z
 ·cases z
 ·exact Go z
theorem Bx{α:Type}{l:List α}(hn:l.Nodup){i j:Nat}{a:α}(h1:l[i]? =some a)(h2:l[j]? =some a):i=j:=by
 obtain⟨hi,e1⟩:=lq2 h1;obtain⟨hj,e2⟩:=lq2 h2;rcases lH1 i j with q|q|q
 ·exact absurd (e1.trans e2.symm) ((lA7.mp hn) i j hi hj q)
 ·exact q
 ·exact absurd (e2.trans e1.symm) ((lA7.mp hn) j i hj hi q)
theorem Dg.mem_lt{G:Gd}{s:Shared}{ρ:List Addr}{σ:C3}(I:Dg G s ρ σ){a:Addr}(m:a∈ρ):a<s.heap.objs.size:=by
 obtain⟨k,hk,e⟩:=lE2 m;have hk':k<σ.length:=by rw[←I.len];exact hk
 have e1:ρ[k]? =some a:=by rw[lA9 hk,e]
 have r:=I.sto k a σ[k] e1 (lA9 hk')
 cases q:σ[k]with
 |list ds=>
  rw[q]at r;obtain⟨vs,⟨n,ho⟩,_⟩:=r;exact lM0 ho
 |dict kvs=>
  rw[q]at r;obtain⟨xs,⟨o,es,ep,ho,_⟩,_⟩:=r;exact lM0 ho
 |priv=>
  rw[q]at r;obtain⟨x,y,ho⟩:=r;exact lM0 ho
 |ctab PP l c qq kk=>
  rw[q]at r
  cases kk with
  |none=>exact lM0 r.2
  |some kk=>obtain⟨_,c',_,ho⟩:=r;exact lM0 ho
 |code qq=>
  rw[q]at r;obtain⟨o,vs,t,ho,_⟩:=r;exact lM0 ho
theorem Ev.stb{G:Gd}{s:Shared}{P:List Addr}{ρ:List Addr}{σ:C3}{h':Heap}{ρ':List Addr}(x:Ev P s.heap ρ h' ρ')(_I:Dg G s ρ σ)(N:zMp s.heap ρ P):Lh s.heap ρ h' ρ' where
 pre:=x.pre
 tup a items n1 t:=by
  obtain⟨n,ho⟩:=t;have n2:a∉P:=λm=>N a m n1 _ _ ho
  obtain⟨o',ho',q⟩:=x.keep a _ ho n1 n2;rw[q.eq (λ_ _ z=>by cases z)]at ho'
  exact⟨x.notin ho n1,n,ho'⟩
structure Cx where
 names:List (Str×NameKind)
 tbl:List Str
 lvl:Nat
 code:Value
 qual:Str
structure Fr (G:Gd)(C:Cx) where
 A:Around
 P:List Addr
 env:Env
structure Tv {G:Gd}{C:Cx}(F:Fr G C)(h:Heap)(ρ:List Addr)(loc:Bm):Prop where
 kind:F.env.scope.kind=.function
 glob:F.env.globals=mainGlobals
 bi:F.env.builtins=builtinsNs
 ns:∃m,h.Ns F.env.locals m/\∀(i:Nat) (x:Str),C.tbl[i]? =some x->F.env.kindOf x=some .local->∀d,loc i=some d->∃v,m x=some v/\Cr G h ρ d v
 cell:∀(i:Nat) (x:Str),C.tbl[i]? =some x->(F.env.kindOf x=some .cell∨F.env.kindOf x=some .free)->∃c,F.env.cells.lookup x=some c/\∃ov,h.IsCell c ov/\∀d,loc i=some d->∃v,ov=some v/\Cr G h ρ d v
 cok:∀x c,F.env.cells.lookup x=some c->c∉ρ/\∃ov,h.IsCell c ov
 cinj:∀x y c,F.env.cells.lookup x=some c->F.env.cells.lookup y=some c->x=y
 lrho:F.env.locals∉ρ
 lP:F.env.locals∈F.P
 own:∀p,p∈F.P->G.h0.get? p=none/\(p=F.env.locals∨∃x,F.env.cells.lookup x=some p)
 tnd:C.tbl.Nodup
theorem Tv.nt{G:Gd}{C:Cx}{F:Fr G C}{h:Heap}{ρ:List Addr}{loc:Bm}(M:Tv F h ρ loc):NT h F.P:=by
 intro p m;rcases(M.own p m).2 with rfl|⟨x,e⟩
 ·obtain⟨mm,⟨o,es,ep,ho,hd,_⟩,_⟩:=M.ns;exact⟨o,ho,.inl ⟨es,ep,hd⟩⟩
 ·obtain⟨_,ov,o,ho,hd⟩:=M.cok x p e;exact⟨o,ho,.inr (.inl ⟨ov,hd⟩)⟩
theorem Sz{P:List Addr}{h h':Heap}{ρ ρ':List Addr}(x:Ev P h ρ h' ρ'){L:Addr}{m:Str->Option Value}(n:h.Ns L m)(h1:L∉ρ)(h2:L∉P):h'.Ns L m:=by
 obtain⟨o,es,ep,ho,hd,r⟩:=n;obtain⟨o',ho',q⟩:=x.keep L o ho h1 h2;exact⟨o',es,ep,ho',q.2.1.trans hd,r⟩
theorem Qz{P:List Addr}{h h':Heap}{ρ ρ':List Addr}(x:Ev P h ρ h' ρ'){c:Addr}{ov:Option Value}(n:h.IsCell c ov)(h1:c∉ρ)(h2:c∉P):h'.IsCell c ov:=by
 obtain⟨o,ho,hd⟩:=n;obtain⟨o',ho',q⟩:=x.keep c o ho h1 h2;exact⟨o',ho',q.2.1.trans hd⟩
theorem Tv.keepP{G:Gd}{C:Cx}{F:Fr G C}{P:List Addr}{s:Shared}{ρ:List Addr}{σ:C3}{loc:Bm}{h':Heap}{ρ':List Addr}(M:Tv F s.heap ρ loc)(I:Dg G s ρ σ)(x:Ev P s.heap ρ h' ρ')(N:zMp s.heap ρ P)(hl:F.env.locals∉P)(hc:∀y c,F.env.cells.lookup y=some c->c∉P):Tv F h' ρ' loc where
 kind:=M.kind
 glob:=M.glob
 bi:=M.bi
 ns:=by
  obtain⟨m,n,q⟩:=M.ns;exact⟨m,Sz x n M.lrho hl,λi y e k d hd=>let⟨v,e1,e2⟩:=q i y e k d hd;⟨v,e1,Cr.mono (x.stb I N) d v e2⟩⟩
 cell i y e k:=by
  obtain⟨c,e1,ov,n,q⟩:=M.cell i y e k;exact⟨c,e1,ov,Qz x n (M.cok y c e1).1 (hc y c e1),λd hd=>let⟨v,e1,e2⟩:=q d hd;⟨v,e1,Cr.mono (x.stb I N) d v e2⟩⟩
 cok y c e:=by
  obtain⟨n,ov,o,ho,hd⟩:=M.cok y c e;exact⟨x.notin ho n,ov,Qz x ⟨o,ho,hd⟩ n (hc y c e)⟩
 cinj:=M.cinj
 lrho:=by
  obtain⟨m,⟨o,es,ep,ho,r⟩,q⟩:=M.ns;exact x.notin ho M.lrho
 lP:=M.lP
 own:=M.own
 tnd:=M.tnd
theorem Tv.keep{G:Gd}{C:Cx}{F:Fr G C}{s:Shared}{ρ:List Addr}{σ:C3}{loc:Bm}{h':Heap}{ρ':List Addr}(M:Tv F s.heap ρ loc)(I:Dg G s ρ σ)(x:Ev [] s.heap ρ h' ρ'):Tv F h' ρ' loc:=M.keepP I x .nil (λm=>nomatch m) λ_ _ _ m=>nomatch m
structure Pl (n:Nat)(A:Around):Prop where
 hd:A.handled=none
 depth:A.depth+n<=900
 units:A.units+10*n<=9000
theorem Pl.le(R:Pl n A)(h:n'<=n):Pl n' A:=⟨R.hd,by have:=R.depth;exact Ck (Ac (.a x1 x0) (.n 900)) [Ac x0 x2,Ac (.a x1 x2) (.n 900)] rT h this,by have:=R.units;exact Ck (Ac (.a x1 (.m 10 x0)) (.n 9000)) [Qe 10 x0 x2,Ac (.a x1 (.m 10 x2)) (.n 9000)] rT h this⟩
structure zMh (names:List (Str×NameKind))(env:Env):Prop where
 loc:∀x,names.lookup x=some .local->env.kindOf x=some .local
 cell:∀x,names.lookup x=some .cell->env.kindOf x=some .cell
 free:∀x,names.lookup x=some .free->env.kindOf x=some .cell∨env.kindOf x=some .free
 glob:∀x,names.lookup x=some .globalImplicit->env.kindOf x=some .globalImplicit
structure Ok {G:Gd}{C:Cx}(F:Fr G C)(s:Shared)(ρ:List Addr)(st:St):Prop where
 room:Pl C.lvl F.A
 sees:zMh C.names F.env
 inv:Dg G s ρ st.sto
 frm:Tv F s.heap ρ st.loc
 code:C.code=.none∨F.env.code=C.code
 qual:C.code=.none∨F.env.qual=C.qual
noncomputable abbrev Gd.M (G:Gd):Model:=model G.prog G.w
theorem Ok.step{G:Gd}{C:Cx}{F:Fr G C}{s:Shared}{ρ:List Addr}{st:St}(K:Ok F s ρ st){s':Shared}{ρ':List Addr}{σ':C3}(I':Dg G s' ρ' σ')(x:Ev [] s.heap ρ s'.heap ρ'):Ok F s' ρ' ⟨st.loc,σ'⟩:=
 ⟨K.room,K.sees,I',K.frm.keep K.inv x,K.code,K.qual⟩
theorem Ok.stepS{G:Gd}{C:Cx}{F:Fr G C}{s:Shared}{ρ:List Addr}{st:St}(K:Ok F s ρ st){s':Shared}{ρ':List Addr}{st':St}(I':Dg G s' ρ' st'.sto)(M':Tv F s'.heap ρ' st'.loc):Ok F s' ρ' st':=
 ⟨K.room,K.sees,I',M',K.code,K.qual⟩
theorem Bk{st st':St}{P:Prop}(h:Af m f st=.ok b st')(k:∀a st1,m st=.ok a st1->f a st1=.ok b st'->P):P:=by
 unfold Af at h
 cases e:m st with
 |ok a st1=>rw[e]at h;exact k a st1 e h
 |bot=>rw[e]at h;cases h
theorem Bv{P:Prop}(h:Re.bot=.ok b st'):P:=by cases h
section
variable {G:Gd}{C:Cx}{F:Fr G C}{P:List Addr}{s:Shared}{ρ:List Addr}{σ:C3}{st:St}
noncomputable def Ci (h h':Heap):Prop:=∀b o,h.get? b=some o->h'.get? b=some o
theorem Ci.refl(h:Heap):Ci h h:=λ_ _ e=>e
theorem Ci.push(h:Heap)(o:Obj):Ci h (h.push o):=λ_ _ e=>lB6 o e
theorem Bj{h:Heap}{o:Obj}:h.objs.size<=(h.push o).objs.size:=by rw[lK7];omega
theorem Ci.ev(g:Ci h h')(z:h.objs.size<=h'.objs.size):Ev P h ρ h' ρ:=⟨λ_ _ e=>e,λb o e _ _=>⟨o,g b o e,.refl o⟩,λ_ m=>.inl m,z⟩
theorem Ci.stb(g:Ci h h'):Lh h ρ h' ρ:=
 ⟨λ_ _ e=>e,λa _ n1 t=>let⟨n,ho⟩:=t;⟨n1,n,g a _ ho⟩⟩
theorem Ci.ext(g:Ci h h')(hp:∀(k:Nat) (a:Addr),ρ[k]? =some a→ρ'[k]? =some a)(hn:∀a o,a∉ρ→h.get? a=some o→o.cls=.type "tuple"→a∉ρ'):Lh h ρ h' ρ':=
 ⟨hp,λa _ n1 t=>let⟨n,ho⟩:=t;⟨hn a _ n1 ho rfl,n,g a _ ho⟩⟩
theorem Ci.list(g:Ci h h')(x:h.IsList a vs):h'.IsList a vs:=by obtain⟨o,ho,r⟩:=x;exact⟨o,g a o ho,r⟩
theorem zBi(h:Dc vs k):ItemsAre (intKind G.prog G.w) k vs:=by
 induction h with
 |nil=>exact .nil
 |cons h _ ih=>obtain⟨t,rfl⟩:=h;exact .cons (by simp[intKind,Value.isInt]) ih
theorem N3.is(x:N3 h a k):(Jt G).is h k a:=by obtain⟨vs,⟨n,e⟩,r⟩:=x;exact⟨_,vs,n,e,rfl,rfl,zBi r⟩
theorem N3.mono(S:Lh h ρ h' ρ')(n:a∉ρ)(x:N3 h a k):a∉ρ'/\N3 h' a k:=by obtain⟨vs,t,r⟩:=x;obtain⟨n',t'⟩:=S.tup a vs n t;exact⟨n',vs,t',r⟩
theorem L4.mono(S:Lh h ρ h' ρ')(hk:∀o,h.get? a=some o->h'.get? a=some o)(hz:h.objs.size<=h'.objs.size)(x:L4 G h ρ a o):L4 G h' ρ' a o:=by
 cases o with
 |list ds=>
  obtain⟨vs,⟨n,ho⟩,r⟩:=x;exact⟨vs,⟨n,hk _ ho⟩,Ay.mono S _ _ r⟩
 |dict kvs=>
  apply yo;intro _ k0
  obtain⟨xs,⟨o,es,ep,ho,hx,hd,he,hi,hn⟩,hs,e,r⟩:=x;apply k0
  have r':=λx m=>(r x m).2.mono S (r x m).1
  exact⟨xs,⟨o,es,ep,hk _ ho,hx,hd,he,λx m=>(r' x m).2.is,hn⟩,hs,e,r'⟩
 |priv=>
  obtain⟨u,v,ho⟩:=x;exact⟨u,v,hk _ ho⟩
 |ctab PP l c q k=>
  cases k with
  |none=>exact⟨x.1,hk _ x.2⟩
  |some k=>obtain⟨e0,c',e,ho⟩:=x;exact⟨e0,c',S.pre _ _ e,hk _ ho⟩
 |code q=>obtain⟨o,vs,t,ho,r⟩:=x;exact⟨o,vs,t,hk _ ho,r⟩
theorem Dg.grow(I:Dg G s ρ σ)(g:Ci s.heap h')(z:s.heap.objs.size<=h'.objs.size)(t:Nat):Dg G {s with heap:=h',toks:=t} ρ σ where
 base b o e:=g b o (I.base b o e)
 new:=I.new
 nodup:=I.nodup
 len:=I.len
 sto k a o e1 e2:=(I.sto k a o e1 e2).mono g.stb (λo ho=>g a o ho) z
 os:=I.os
 gens:=I.gens
theorem Dg.tok(I:Dg G s ρ σ)(t:Nat):Dg G {s with toks:=t} ρ σ:=I.grow (Ci.refl _) (lN4 _) t
theorem Dg.size_notin(I:Dg G s ρ σ):s.heap.objs.size∉ρ:=λm=>lL7 _ (I.mem_lt m)
theorem Dg.h0_le(I:Dg G s ρ σ)(h:s.heap.objs.size<=a):G.h0.get? a=none:=by
 cases q:G.h0.get? a with
 |none=>rfl
 |some o=>exact absurd (lM0 (I.base _ _ q)) (lN7.mpr h)
theorem Dg.h0_size(I:Dg G s ρ σ):G.h0.get? s.heap.objs.size=none:=I.h0_le (lN4 _)
theorem E9{α:Type}{ρ:List α}{a:α}:∀(k:Nat) (b:α),ρ[k]? =some b->(ρ++[a])[k]? =some b:=λk b e=>by
 rw[lA6 (lq2 e).1];exact e
theorem Dg.adopt(I:Dg G s ρ σ){q:Addr}{p:PO}(h0:G.h0.get? q=none)(hq:q∉ρ)(hnt:∀o,s.heap.get? q=some o→o.cls≠.type "tuple")
  (hr:Lh s.heap ρ s.heap (ρ++[q])->L4 G s.heap (ρ++[q]) q p) (t:Nat):Dg G {s with toks:=t} (ρ++[q]) (σ++[p])/\Lh s.heap ρ s.heap (ρ++[q]):=by
 have S:Lh s.heap ρ s.heap (ρ++[q]):=(Ci.refl s.heap).ext E9 λa o n1 ho hc m=>by
  rcases lJ6.mp m with m|m
  ·exact n1 m
  ·rw[lq0 m]at ho;exact hnt o ho hc
 refine⟨⟨I.base,λa m=>?_,?_,by simp[I.len],λk a p' e1 e2=>?_,I.os,I.gens⟩,S⟩
 ·rcases lJ6.mp m with m|m
  ·exact I.new a m
  ·rw[lq0 m];exact h0
 ·refine lG5.mpr ⟨I.nodup,by simp,λa m b m' e=>?_⟩
  rw[lq0 m']at e;exact hq (e▸m)
 ·by_cases hk:k<ρ.length
  ·rw[lA6 hk]at e1;rw[lA6 (by rw[←I.len];exact hk)]at e2
   exact(I.sto k a p' e1 e2).mono S (λo' ho'=>ho') (lN4 _)
  ·have:k=ρ.length:=by
    have:=(lq2 e1).1
    simp at this
    omega
   subst this;simp at e1
   rw[I.len]at e2;simp at e2
   subst e1 e2;exact hr S
theorem Eo{h h':Heap}{ρ':List Addr}{q:Addr}(x:Ev P h ρ h' ρ')(hq:h.objs.size<=q):Ev P h ρ h' (ρ'++[q]) where
 pre k a e:=E9 k a (x.pre k a e)
 keep:=x.keep
 newp a m:=by
  rcases lJ6.mp m with m|m
  ·exact x.newp a m
  ·rw[lq0 m];exact .inr hq
 size:=x.size
theorem Dg.alloc(I:Dg G s ρ σ){o:Obj}{p:PO}(hnt:o.cls≠.type "tuple")(hf:o.isFreed=false)
  (hr:Lh s.heap ρ (s.heap.push o) (ρ++[s.heap.objs.size])->L4 G (s.heap.push o) (ρ++[s.heap.objs.size]) s.heap.objs.size p) (t:Nat):
  Dg G {s with heap:=s.heap.push o,toks:=t} (ρ++[s.heap.objs.size]) (σ++[p])/\(∀P,Ev P s.heap ρ (s.heap.push o) (ρ++[s.heap.objs.size])):=by
 have g:=Ci.push s.heap o;have I1:=I.grow g Bj t;have x1:∀P,Ev P s.heap ρ (s.heap.push o) ρ:=λP=>g.ev Bj
 have S0:Lh s.heap ρ (s.heap.push o) ρ:=g.stb
 have:=I1.adopt (q:=s.heap.objs.size) (p:=p) I.h0_size I.size_notin (λo' ho'=>by
  have ho'':(s.heap.push o).get? s.heap.objs.size=some o':=ho'
  rw[lE1 _ hf]at ho'';cases ho'';exact hnt) (λS=>hr ⟨S.pre,λa vs n1 t=>let⟨n2,t2⟩:=S0.tup a vs n1 t;S.tup a vs n2 t2⟩) t
 exact⟨this.1,λP=>Eo (x1 P) (lN4 _)⟩
theorem Dg.put(I:Dg G s ρ σ)(hk:ρ[k]? =some a)(hs:Heap.SameBut a s.heap h')(hr:Lh s.heap ρ h' ρ->L4 G h' ρ a p)(t:Nat):Dg G {s with heap:=h',toks:=t} ρ (σ.set k p)/\∀P,Ev P s.heap ρ h' ρ:=by
 have ha:a∈ρ:=lD5 hk
 have keep:∀b o,b≠a->s.heap.get? b=some o->h'.get? b=some o:=λb o n e=>(hs.2 b n).trans e
 have hz:s.heap.objs.size<=h'.objs.size:=lM5 hs.1.symm
 have S:Lh s.heap ρ h' ρ:=⟨λ_ _ e=>e,λb items n1 t=>by
   obtain⟨n,ho⟩:=t;exact⟨n1,n,keep b _ (λe=>n1 (e▸ha)) ho⟩⟩
 refine⟨⟨λb o e=>keep b o (λq=>?_) (I.base b o e),I.new,I.nodup,by simp[I.len],λj b p' e1 e2=>?_,I.os,I.gens⟩,
  λP=>⟨λ_ _ e=>e,λb o e n _=>⟨o,keep b o (λq=>n (q▸ha)) e,.refl o⟩,λ_ m=>.inl m,hz⟩⟩
 ·rw[q,I.new a ha]at e;cases e
 ·by_cases hj:j=k
  ·subst hj;rw[hk]at e1;cases e1;rw[lB8 (by rw[←I.len];exact(lq2 hk).1)]at e2
   cases e2;exact hr S
  ·rw[lD3 (Ne.symm hj)]at e2;have hb:b≠a:=λq=>hj (Bx I.nodup (q▸e1) hk)
   exact(I.sto j b p' e1 e2).mono S (λo ho=>keep b o hb ho) hz
noncomputable def Rq (G:Gd)(h:Heap)(ρ:List Addr)(q:Addr):Prop:=G.h0.get? q=none∧q∉ρ∧∃o T vs,h.get? q=some o∧o.cls=.type T∧T≠"tuple"∧o.data=.fields vs
noncomputable def It (S:List Addr)(h h':Heap):Prop:=(∀b o,b∉S->h.get? b=some o->h'.get? b=some o)/\h.objs.size<=h'.objs.size/\∀q,q∈S->zFs h q->zFs h' q
theorem Ks(k:∀b o,b≠I->h.get? b=some o->h'.get? b=some o)(z:h.objs.size<=h'.objs.size)(np:¬zFs h I):It [I] h h':=
 ⟨λb o n e=>k b o (λq=>n (by simp[q])) e,z,λq m p=>absurd (lq0 m▸p) np⟩
theorem K8:It S h h:=⟨λ_ _ _ e=>e,lN4 _,λ_ _ p=>p⟩
theorem Rq.notPrv(i:Rq G h ρ q):¬zFs h q:=λ⟨x,y,e⟩=>by
 obtain⟨_,_,o,T,vs,ho,_,_,hd⟩:=i;rw[e]at ho;cases ho;cases hd
noncomputable def X3 (G:Gd)(h:Heap)(ρ:List Addr)(σ:C3)(q:Addr):Prop:=(Rq G h ρ q∨(G.h0.get? q=none/\q∉ρ/\∃vs,Jq h q vs))∨∃k:Nat,ρ[k]? =some q/\σ[k]? =some .priv
theorem It.stb(x:It S h h')(i:∀q,q∈S->X3 G h ρ σ q):Lh h ρ h' ρ:=
 ⟨λ_ _ e=>e,λb items n1 t=>by
   apply yo;intro _ k0
   obtain⟨n,ho⟩:=t;apply k0
   refine⟨n1,n,x.1 b _ (λm=>?_) ho⟩
   rcases i b m with(⟨_,_,o',T,vs,ho',hc',hT,_⟩|⟨_,_,vs,nn,ho'⟩)|⟨k,e,_⟩
   ·rw[ho]at ho';cases ho'
    cases hc';exact hT rfl
   ·rw[ho]at ho';exact Go (lK2 ho')
   ·exact n1 (lD5 e)⟩
theorem Dg.only(I:Dg G s ρ σ)(x:It S s.heap h')(i:∀q,q∈S->X3 G s.heap ρ σ q)(t:Nat):Dg G {s with heap:=h',toks:=t} ρ σ where
 base b o e:=x.1 b o (λm=>by
  rcases i b m with(z|z)|⟨k,z,_⟩
  ·rw[z.1]at e;cases e
  ·rw[z.1]at e;cases e
  ·rw[I.new b (lD5 z)]at e;cases e) (I.base b o e)
 new:=I.new
 nodup:=I.nodup
 len:=I.len
 sto k a o e1 e2:=by
  by_cases m:a∈S
  ·rcases i a m with(z|z)|⟨k',z1,z2⟩
   ·exact absurd (lD5 e1) z.2.1
   ·exact absurd (lD5 e1) z.2.1
   ·have:=Bx I.nodup e1 z1
    subst this;rw[z2]at e2;cases e2;exact x.2.2 a m (I.sto k a .priv e1 z2)
  ·exact(I.sto k a o e1 e2).mono (x.stb i) (λo ho=>x.1 a o m ho) x.2.1
 os:=I.os
 gens:=I.gens
theorem X3.not_tup(z:X3 G h ρ σ q)(hr:q∉ρ)(ho:h.get? q=some (Xk vs n)):False:=by
 rcases z with(⟨_,_,o',T,vs,ho',_,_,hd'⟩|⟨_,_,vs,nn,ho'⟩)|⟨k,e,_⟩
 ·rw[ho]at ho';cases ho';cases hd'
 ·rw[ho]at ho';exact Go (lK2 ho')
 ·exact hr (lD5 e)
theorem X3.ne_dict(z:X3 G h ρ σ q)(hr:q∉ρ)(ho:h.get? q=some o):(∀es n,o.data≠.dict es n)/\∀v,o.data≠.cell v:=by
 rcases z with(⟨_,_,o',T,vs,ho',_,_,hd'⟩|⟨_,_,vs,nn,ho'⟩)|⟨k,e,_⟩
 ·rw[ho]at ho';cases ho';rw[hd'];exact⟨λ_ _ z=>(by cases z),λ_ z=>by cases z⟩
 ·rw[ho]at ho';cases ho';exact⟨λ_ _ z=>(by cases z),λ_ z=>by cases z⟩
 ·exact absurd (lD5 e) hr
theorem Tv.only(M:Tv F s.heap ρ loc)(x:It S s.heap h')(i:∀q,q∈S->X3 G s.heap ρ σ q):Tv F h' ρ loc where
 kind:=M.kind
 glob:=M.glob
 bi:=M.bi
 ns:=by
  apply yo;intro _ k0
  obtain⟨m,⟨o,es,ep,ho,hd,r⟩,q⟩:=M.ns;apply k0
  refine⟨m,⟨o,es,ep,x.1 _ o (λmm=>?_) ho,hd,r⟩,λi' y e k d hd=>let⟨v,e1,e2⟩:=q i' y e k d hd;⟨v,e1,Cr.mono (x.stb i) d v e2⟩⟩
  exact((i _ mm).ne_dict M.lrho ho).1 _ _ hd
 cell i' y e k:=by
  apply yo;intro _ k0
  obtain⟨c,e1,ov,⟨o,ho,hd⟩,q⟩:=M.cell i' y e k;apply k0
  refine⟨c,e1,ov,⟨o,x.1 c o (λmm=>?_) ho,hd⟩,λd hd=>let⟨v,e1,e2⟩:=q d hd;⟨v,e1,Cr.mono (x.stb i) d v e2⟩⟩
  exact((i _ mm).ne_dict (M.cok y c e1).1 ho).2 _ hd
 cok y c e:=by
  apply yo;intro _ k0
  obtain⟨n,ov,o,ho,hd⟩:=M.cok y c e;apply k0
  refine⟨n,ov,o,x.1 c o (λmm=>?_) ho,hd⟩
  exact((i _ mm).ne_dict n ho).2 _ hd
 cinj:=M.cinj
 lrho:=M.lrho
 lP:=M.lP
 own:=M.own
 tnd:=M.tnd
theorem Ok.only(K:Ok F s ρ st)(x:It S s.heap h')(i:∀q,q∈S->X3 G s.heap ρ st.sto q)(t:Nat):Ok F {s with heap:=h',toks:=t} ρ st:=
 ⟨K.room,K.sees,K.inv.only x i t,K.frm.only x i,K.code,K.qual⟩
theorem Ok.tok(K:Ok F s ρ st)(t:Nat):Ok F {s with toks:=t} ρ st:=⟨K.room,K.sees,K.inv.tok t,K.frm,K.code,K.qual⟩
theorem Ok.grow(K:Ok F s ρ st)(g:Ci s.heap h')(z:s.heap.objs.size<=h'.objs.size)(t:Nat):Ok F {s with heap:=h',toks:=t} ρ st:=K.step (K.inv.grow g z t) (Ci.ev (P:=[]) (ρ:=ρ) g z)
theorem Ev.only(x:Ev P hs ρs h ρ)(y:It S h h')(n:∀q,q∈S->hs.objs.size<=q∨q∈ρs∨q∈P):Ev P hs ρs h' ρ where
 pre:=x.pre
 keep b o e n1 n2:=by
  obtain⟨o',e',q⟩:=x.keep b o e n1 n2;exact⟨o',y.1 b o' (λm=>(n b m).elim (λz=>lL7 _ (lF5 (lM0 e) z)) λz=>z.elim n1 n2) e',q⟩
 newp:=x.newp
 size:=lM7 x.size y.2.1
theorem Rq.keep(i:Rq G s.heap ρ q)(x:Ev P s.heap ρ h' ρ')(F:NT s.heap P):Rq G h' ρ' q/\h'.get? q=s.heap.get? q:=by
 apply yo;intro _ k0
 obtain⟨h1,h2,o,T,vs,ho,hc,hT,hd⟩:=i;obtain⟨o',ho',e⟩:=x.keep q o ho h2 (λm=>by
  obtain⟨o',ho',z⟩:=F q m;rw[ho]at ho';cases ho';rcases z with⟨_,_,z⟩|⟨_,z⟩|⟨_,_,z⟩
  ·rw[hd]at z;cases z
  ·rw[hd]at z;cases z
  ·rw[z]at hd;cases hd)
 have e':=e.eq (λes n z=>by rw[hd]at z;cases z)
 subst e';apply k0
 exact⟨⟨h1,x.notin ho h2,o',T,vs,ho',hc,hT,hd⟩,ho'.trans ho.symm⟩
end
inductive zNW (s s':Shared):Prop
 |mk (h':Heap) (tk:Nat) (e:s'={s with heap:=h',toks:=tk}) (g:Ci s.heap h')
inductive zMi {α:Type}(s:Shared)(R:Heap->α->Prop)(v:α)(s':Shared):Prop
 |mk (g:zNW s s') (r:R s'.heap v)
noncomputable def At {α β:Type}{G:Gd}{C:Cx}(F:Fr G C)(P:List Addr)(s:Shared)(ρ:List Addr)(st:St)(R:Heap->List Addr->β->α->Prop)(t:Sem α)(m:Mn β):Prop:=
 ∀(d:β) (st':St) (Q:α->Shared->Prop) (E:Value->Shared->Prop),m st=.ok d st'->(∀v s' ρ',Ok F s' ρ' st'->Ev P s.heap ρ s'.heap ρ'->R s'.heap ρ' d v->Q v s')->wpAny G.M F.A t Q E s
noncomputable abbrev RV (G:Gd):Heap->List Addr->D->Value->Prop:=λh ρ d v=>Cr G h ρ d v
noncomputable abbrev RB:Heap->List Addr->Bool->Bool->Prop:=λ_ _ b c=>b=c
noncomputable abbrev zOZ (G:Gd):Heap->List Addr->List D->List Value->Prop:=λh ρ ds vs=>Ay G h ρ ds vs
structure SE (G:Gd)(C:Cx)(e:Expr)(m:Mn D):Prop where
 run:∀(F:Fr G C) s ρ st,Ok F s ρ st->At F [] s ρ st (RV G) (eval e F.env) m
structure SB (G:Gd)(C:Cx)(e:Expr)(m:Mn Bool):Prop where
 run:∀(F:Fr G C) s ρ st,Ok F s ρ st->At F [] s ρ st RB (isTrue e F.env (eval e F.env)) m
structure SA (G:Gd)(C:Cx)(es:List Expr)(m:Mn (List D)):Prop where
 run:∀(F:Fr G C) s ρ st pos,Ok F s ρ st->At F [] s ρ st (zOZ G) (spliced (backTo pos (starEach es F.env))) m
section
variable {α β γ δ:Type}{G:Gd}{C:Cx}{F:Fr G C}{P:List Addr}{s:Shared}{ρ:List Addr}{st:St}
theorem At.bind{R:Heap->List Addr->β->α->Prop}{R':Heap->List Addr->δ->γ->Prop}{t:Sem α}{m:Mn β}{k:α->Sem γ}{f:β->Mn δ}(h1:At F [] s ρ st R t m)
  (h2:∀v s' ρ' d st',Ok F s' ρ' st'->Ev [] s.heap ρ s'.heap ρ'->R s'.heap ρ' d v->At F P s' ρ' st' R' (k v) (f d)):
  At F P s ρ st R' (t >>= k) (Af m f):=λd st' Q E hm kk=>Bk hm λa st1 e1 e2=>
 lN9 (h1 a st1 _ _ e1 λv s1 ρ1 K1 x1 r1=>h2 v s1 ρ1 a st1 K1 x1 r1 d st' Q E e2 λw s2 ρ2 K2 x2 r2=>kk w s2 ρ2 K2 (x1.nil.trans x2) r2)
theorem At.bot:At F P s ρ st R t botM:=λ_ _ _ _ h=>Bv h
theorem At.ret(h:∀Q E,(∀v s' ρ',Ok F s' ρ' st->Ev P s.heap ρ s'.heap ρ'->R s'.heap ρ' d v->Q v s')->wpAny G.M F.A t Q E s):At F P s ρ st R t (A8 d):=λd' st' Q E hm kk=>by
 cases hm;exact h Q E kk
theorem At.hold(h:At F P s ρ st R t m):At F P s ρ st R (holding vs t) m:=λd st' Q E hm kk=>lL8 (h d st' Q E hm kk)
theorem At.stand{R:Heap->List Addr->β->α->Prop}{t:Sem α}{m:Mn β}{p:Pos}(h:At F P s ρ st R t m):At F P s ρ st R (standAt p >>= λ_=>t) m:=λd st' Q E hm kk=>lN9 (lL9 (h d st' Q E hm kk))
theorem At.ofEq(e:t=t')(h:At F P s ρ st R t' m):At F P s ρ st R t m:=e▸h
theorem At.pure(K:Ok F s ρ st)(h:R s.heap ρ d v):At F P s ρ st R (pure v) (A8 d):=At.ret λQ E kk=>lO1 (kk v s ρ K Ev.refl h)
theorem At.leaf(K:Ok F s ρ st)(h:wpAny G.M F.A t (zMi s λh v=>R h ρ d v) (λ_ _=>False) s):At F P s ρ st R t (A8 d):=
 At.ret λQ E kk=>lO0 (Lg h) (λv s' q=>by
  obtain⟨z,⟨h',tk,rfl,g⟩,r⟩:=q;exact kk v _ ρ (K.grow g z tk) (g.ev z) r) λ_ _ q=>q.2.elim
theorem At.map{R:Heap->List Addr->β->α->Prop}{R':Heap->List Addr->δ->γ->Prop}{t:Sem α}{m:Mn β}{f:β->δ}{g:α->γ}(h:At F [] s ρ st R t m)
  (hr:∀h ρ d v,R h ρ d v->R' h ρ (f d) (g v)):At F P s ρ st R' (t >>= λv=>Pure.pure (g v)) (Af m λd=>A8 (f d)):=
 At.bind h λv s' ρ' d st' K' x r=>At.pure K' (hr _ _ _ _ r)
end
noncomputable def A6 (i:Nat):Mn D:=λst=>match st.loc i with
 |some d=>.ok d st
 |none=>.bot
theorem zIG{i:Nat}{st st':St}{d:D}{P:St->Prop}(h:A6 i st=.ok d st')(k:st.loc i=some d->P st):P st':=by
 unfold A6 at h
 cases e:st.loc i with
 |none=>rw[e]at h;cases h
 |some d'=>rw[e]at h;cases h;exact k e
section
variable {G:Gd}{C:Cx}
theorem zJg:SE G C (.Constant (.int i) k pos) (A8 (.int i)):=.mk <| λF s ρ st K=>
 At.ret λQ E kk=>wpAny_Constant_int (kk _ _ ρ (K.tok _) Ev.refl ⟨_,rfl⟩)
theorem zKE:SE G C (.Constant (.str x) k pos) (A8 (.str x)):=.mk <| λF s ρ st K=>
 At.ret λQ E kk=>Calls.Constant_str (kk _ _ ρ (K.tok _) Ev.refl ⟨_,rfl⟩)
theorem zGa:SE G C (.Constant (.bool b) k pos) (A8 (.bool b)):=.mk <| λF s ρ st K=>At.pure K rfl
theorem zGk:SE G C (.Constant .none k pos) (A8 .none):=.mk <| λF s ρ st K=>At.pure K rfl
theorem At.var{F:Fr G C}{s:Shared}{ρ:List Addr}{st:St}{i:Nat}{t:Sem Value}(h:∀d Q E,st.loc i=some d->(∀v,Cr G s.heap ρ d v->Q v s)->wpAny G.M F.A t Q E s)(K:Ok F s ρ st):At F [] s ρ st (RV G) t (A6 i):=λd st' Q E hm=>
 zIG (P:=λst'=>(∀v s' ρ',Ok F s' ρ' st'->Ev [] s.heap ρ s'.heap ρ'->RV G s'.heap ρ' d v->Q v s')->wpAny G.M F.A t Q E s) hm λe kk=>h d Q E e λv r=>kk v s ρ K Ev.refl r
theorem zEf{i:Nat}{x:Str}{pos:Pos}(hi:C.tbl[i]? =some x)(hx:C.names.lookup x=some .local)(hd:(x==("__debug__":Str))=false):SE G C (.Name x pos) (A6 i):=.mk <| λF s ρ st K=>At.var (λd Q E e kk=>by
 obtain⟨m,n,q⟩:=K.frm.ns;obtain⟨v,e1,e2⟩:=q i x hi (K.sees.loc x hx) d e;exact wpAny_Name (wpAny_loadName_local K.frm.kind (K.sees.loc x hx) n e1 (kk v e2)) hd) K
theorem zAB{i:Nat}{x:Str}{pos:Pos}(hi:C.tbl[i]? =some x)(hx:C.names.lookup x=some .cell∨C.names.lookup x=some .free)(hd:(x==("__debug__":Str))=false)(hn:(x==("__classdict__":Str))=false):
  SE G C (.Name x pos) (A6 i):=.mk <| λF s ρ st K=>At.var (λd Q E e kk=>by
 have hk:=hx.elim (λh=>Or.inl (K.sees.cell x h)) (K.sees.free x)
 obtain⟨c,e1,ov,n,q⟩:=K.frm.cell i x hi hk;obtain⟨v,rfl,e2⟩:=q d e;refine wpAny_Name ?_ hd
 rcases hk with hk|hk
 ·exact wpAny_loadName_cell K.frm.kind hk e1 n (kk v e2)
 ·exact wpAny_loadName_free K.frm.kind hk e1 n (kk v e2) hn) K
end
noncomputable def Hc (G:Gd)(op:Operator)(f:D->D->Mn D):Prop:=
 ∀C (F:Fr G C) s ρ st d1 d2 v1 v2,Ok F s ρ st->Cr G s.heap ρ d1 v1->Cr G s.heap ρ d2 v2->At F [] s ρ st (RV G) (binaryOp op v1 v2) (f d1 d2)
section
variable {G:Gd}{C:Cx}
theorem At.operate{α:Type}{F:Fr G C}{P:List Addr}{s:Shared}{ρ:List Addr}{st:St}{R:Heap->List Addr->α->Value->Prop}{t:Sem Value}{m:Mn α}{vs:List Value}(h:At F P s ρ st R t m):
  At F P s ρ st R (operate vs t) m:=λd st' Q E hm kk Γ p hΓ=>by rw[Sem.wp_operate];exact h d st' Q E hm kk Γ p hΓ
theorem zKg{l r:Expr}{op:Operator}{pos:Pos}{m1 m2:Mn D}{f:D->D->Mn D}(ho:Hc G op f)(h1:SE G C l m1)(h2:SE G C r m2):
  SE G C (.BinOp l op r pos) (Af m1 λa=>Af m2 λb=>f a b):=.mk <| λF s ρ st K=>by
 show At F [] s ρ st (RV G) (do let a ←eval l F.env;let b ←holding [a] (eval r F.env);standAt pos;operate [a,b] (binaryOp op a b)) _
 refine At.bind (h1.run F s ρ st K) λv s' ρ' d st' K' x r1=>?_
 refine At.bind (h2.run F s' ρ' _ K').hold λv2 s'' ρ'' d2 st'' K'' x2 r2=>?_
 exact At.stand (At.operate (ho C F s'' ρ'' _ d d2 v v2 K'' (Cr.mono (x2.stb K'.inv .nil) _ _ r1) r2))
end
noncomputable def op2 (f:Int->Int->Mn D)(g:Str->Str->Mn D):D->D->Mn D
 |.int a,.int b=>f a b
 |.str x,.str y=>g x y
 |_,_=>botM
theorem At.op2{G:Gd}{C:Cx}{F:Fr G C}{s:Shared}{ρ:List Addr}{st:St}{f:Int->Int->Mn D}{g:Str->Str->Mn D}{d1 d2:D}{v1 v2:Value}{T:Value->Value->Sem Value}(r1:Cr G s.heap ρ d1 v1)(r2:Cr G s.heap ρ d2 v2)
  (hi:∀a b t1 t2,At F [] s ρ st (RV G) (T (.int a t1) (.int b t2)) (f a b)) (hs:∀a b t1 t2,At F [] s ρ st (RV G) (T (.str a t1) (.str b t2)) (g a b)):At F [] s ρ st (RV G) (T v1 v2) (op2 f g d1 d2):=by
 cases d1 with
 |int a=>cases d2 with
  |int b=>obtain⟨t1,rfl⟩:=r1;obtain⟨t2,rfl⟩:=r2;exact hi a b t1 t2
  |_=>exact At.bot
 |str a=>cases d2 with
  |str b=>obtain⟨t1,rfl⟩:=r1;obtain⟨t2,rfl⟩:=r2;exact hs a b t1 t2
  |_=>exact At.bot
 |_=>exact At.bot
noncomputable def zLe:Str->Str->Mn D:=λ_ _=>botM
noncomputable def H2:D->D->Mn D:=op2 (λa b=>A8 (.int (a - b))) zLe
noncomputable def Hq:D->D->Mn D:=op2 (λa b=>if b≠0/\b.natAbs<1073741824 then A8 (.int (a.fdiv b))else botM) zLe
theorem At.ite{st:St}{c:Prop}[h:Decidable c](k:c->At F P s ρ st R t m):At F P s ρ st R t (if c then m else botM):=by
 cases h with
 |isTrue x=>exact k x
 |isFalse x=>exact At.bot
noncomputable def zNY:Option PO->Option (List D)
 |some (.list a)=>some a
 |_=>none
theorem zED(h:zNY o=some a):o=some (.list a):=by
 cases o with
 |none=>cases h
 |some o=>cases o<;>first|(cases h;done)|(cases h;rfl)
noncomputable def Wq {α:Type}(o:Option PO)(f:List D->Re α):Re α:=match o with
 |some (.list ds)=>f ds
 |_=>.bot
theorem Qa{st:St}{P:Prop}(hb:Wq o f=.ok a st)(w:∀ds,o=some (.list ds)->f ds=.ok a st->P):P:=by
 cases o with
 |none=>exact Bv hb
 |some o=>cases o<;>first|exact Bv hb|exact w _ rfl hb
theorem Gb{P:Prop}{G:Gd}{s:Shared}{ρ:List Addr}{σ:C3}{k:Nat}{a:Addr}{ds:List D}(I:Dg G s ρ σ)(e:ρ[k]? =some a)(q:σ[k]? =some (.list ds))(w:∀vs n,s.heap.get? a=some (E5 vs n)->Ay G s.heap ρ ds vs.toList->P):P:=by
 obtain⟨vs,⟨n,h⟩,r⟩:=I.sto k a _ e q;exact w vs n h r
theorem zOM(e:t=t')(h:wpAny M A t' Q E s):wpAny M A t Q E s:=by
 cases e;exact h
noncomputable def Be (loc:Bm)(i:Nat)(d:D):Bm:=λj=>if j=i then some d else loc j
noncomputable def Ah (i:Nat)(d:D):Mn Fl:=λst=>.ok .next ⟨Be st.loc i d,st.sto⟩
noncomputable def Wr {G:Gd}{C:Cx}(F:Fr G C):Prop:=∀x c,F.env.cells.lookup x=some c->c∈F.P
noncomputable def zMz (G:Gd)(h:Heap)(ρ:List Addr):Fl->Flow->Prop
 |.next,f=>f=.next
 |.brk,f=>f=.brk
 |.cont,f=>f=.cont
 |.ret d,f=>∃v,f=.ret v/\Cr G h ρ d v
structure SS (G:Gd)(C:Cx)(t:Stmt)(m:Mn Fl):Prop where
 run:∀(F:Fr G C) s ρ st,Ok F s ρ st->Wr F->At F F.P s ρ st (zMz G) (exec t F.env) m
structure Xj (G:Gd)(C:Cx)(t:List Stmt)(m:Mn Fl):Prop where
 run:∀(F:Fr G C) s ρ st,Ok F s ρ st->Wr F->At F F.P s ρ st (zMz G) (execs t F.env) m
section
variable {G:Gd}{C:Cx}{F:Fr G C}{P:List Addr}{s:Shared}{ρ:List Addr}{st:St}{σ:C3}
theorem Ym(I:Dg G s ρ σ)(hs:Heap.SameBut p s.heap h')(hp:p∈P)(h0:G.h0.get? p=none)(hr:p∉ρ)(hn:∃o,s.heap.get? p=some o/\((∃es n,o.data=.dict es n)∨∃v,o.data=.cell v))(t:Nat):
  Dg G {s with heap:=h',toks:=t} ρ σ/\Ev P s.heap ρ h' ρ/\Lh s.heap ρ h' ρ:=by
 have keep:∀b o,b≠p->s.heap.get? b=some o->h'.get? b=some o:=λb o n e=>(hs.2 b n).trans e
 have hz:s.heap.objs.size<=h'.objs.size:=lM5 hs.1.symm
 obtain⟨op,hop,hd⟩:=hn;have S:Lh s.heap ρ h' ρ:=⟨λ_ _ e=>e,λb items n1 t=>by
   obtain⟨n,ho⟩:=t;refine⟨n1,n,keep b _ (λe=>?_) ho⟩
   rw[e,hop]at ho;cases ho;rcases hd with⟨_,_,z⟩|⟨_,z⟩<;>(cases z)⟩
 refine⟨⟨λb o e=>keep b o (λq=>by rw[q,h0]at e;cases e) (I.base b o e),I.new,I.nodup,I.len,λk a o e1 e2=>?_,I.os,I.gens⟩,⟨λ_ _ e=>e,λb o e n n2=>⟨o,keep b o (λq=>n2 (q▸hp)) e,.refl o⟩,λ_ m=>.inl m,hz⟩,S⟩
 exact(I.sto k a o e1 e2).mono S (λo ho=>keep a o (λq=>hr (q▸lD5 e1)) ho) hz
theorem Tv.set_local(M:Tv F s.heap ρ loc)(I:Dg G s ρ σ)(hi:C.tbl[i]? =some x)(hx:F.env.kindOf x=some .local)(hm:s.heap.Ns F.env.locals m)(q:∀(i:Nat) (x:Str),C.tbl[i]? =some x->F.env.kindOf x=some .local->∀d,loc i=some d->∃v,m x=some v/\Cr G s.heap ρ d v)(hn:h'.Ns F.env.locals (λy=>if y=x then some v else m y))(hs:Heap.SameBut F.env.locals s.heap h')(r:Cr G s.heap ρ d v)(t:Nat):
  Dg G {s with heap:=h',toks:=t} ρ σ/\Ev F.P s.heap ρ h' ρ/\Tv F h' ρ (Be loc i d):=by
 have own:=M.own _ M.lP;apply yo;intro _ k0
 obtain⟨oL,esL,epL,hoL,hdL,rL⟩:=id hm;obtain⟨I',x',S⟩:=Ym (P:=F.P) I hs M.lP own.1 M.lrho ⟨oL,hoL,.inl ⟨esL,epL,hdL⟩⟩ t
 apply k0
 have cellne:∀y c,F.env.cells.lookup y=some c->c≠F.env.locals:=λy c e z=>by
  obtain⟨_,ov,o,ho,hd⟩:=M.cok y c e;rw[z,hoL]at ho;cases ho;rw[hdL]at hd;cases hd
 refine⟨I',x',⟨M.kind,M.glob,M.bi,⟨_,hn,λj y e k d' hd'=>?_⟩,λj y e k=>?_,λy c e=>?_,M.cinj,M.lrho,M.lP,M.own,M.tnd⟩⟩
 ·by_cases hj:j=i
  ·subst hj;rw[hi]at e;cases e;simp only[Be,lO4]at hd'
   cases hd';exact⟨v,by simp,Cr.mono S _ _ r⟩
  ·simp only[Be,hj,lO3]at hd';obtain⟨v',e1,e2⟩:=q j y e k d' hd';have hy:y≠x:=λz=>hj (Bx M.tnd (z▸e) hi)
   exact⟨v',by simp only[hy,lO3];exact e1,Cr.mono S _ _ e2⟩
 ·obtain⟨c,e1,ov,n,qq⟩:=M.cell j y e k;refine⟨c,e1,ov,n.sameBut hs (cellne y c e1),λd' hd'=>?_⟩
  have hj:j≠i:=λz=>by
   subst z;rw[hi]at e;cases e;rw[hx]at k;rcases k with k|k<;>cases k
  simp only[Be,hj,lO3]at hd';obtain⟨v',e1,e2⟩:=qq d' hd';exact⟨v',e1,Cr.mono S _ _ e2⟩
 ·obtain⟨n,ov,z⟩:=M.cok y c e;exact⟨n,ov,z.sameBut hs (cellne y c e)⟩
theorem Tv.set_cell(M:Tv F s.heap ρ loc)(I:Dg G s ρ σ)(hi:C.tbl[i]? =some x)(hx:F.env.kindOf x=some .cell)(hc:F.env.cells.lookup x=some c)(hP:c∈F.P)(hn:h'.IsCell c (some v))(hs:Heap.SameBut c s.heap h')(r:Cr G s.heap ρ d v)(t:Nat):
  Dg G {s with heap:=h',toks:=t} ρ σ/\Ev F.P s.heap ρ h' ρ/\Tv F h' ρ (Be loc i d):=by
 have own:=M.own _ hP;apply yo;intro _ k0
 obtain⟨n0,ov0,o0,ho0,hd0⟩:=M.cok x c hc;obtain⟨I',x',S⟩:=Ym (P:=F.P) I hs hP own.1 n0 ⟨o0,ho0,.inr ⟨ov0,hd0⟩⟩ t
 obtain⟨m,nm,q⟩:=M.ns;apply k0
 have lne:F.env.locals≠c:=λz=>by
  obtain⟨oL,esL,epL,hoL,hdL,rL⟩:=nm;rw[z,ho0]at hoL;cases hoL;rw[hdL]at hd0;cases hd0
 refine⟨I',x',⟨M.kind,M.glob,M.bi,⟨m,nm.sameBut hs lne,λj y e k d' hd'=>?_⟩,λj y e k=>?_,λy c' e=>?_,M.cinj,M.lrho,M.lP,M.own,M.tnd⟩⟩
 ·have hj:j≠i:=λz=>by
   subst z;rw[hi]at e;cases e;rw[hx]at k;cases k
  simp only[Be,hj,lO3]at hd';obtain⟨v',e1,e2⟩:=q j y e k d' hd';exact⟨v',e1,Cr.mono S _ _ e2⟩
 ·by_cases hj:j=i
  ·subst hj;rw[hi]at e;cases e;refine⟨c,hc,some v,hn,λd' hd'=>?_⟩
   simp only[Be,lO4]at hd'
   cases hd';exact⟨v,rfl,Cr.mono S _ _ r⟩
  ·apply yo;intro _ k0
   obtain⟨c',e1,ov,n,qq⟩:=M.cell j y e k;apply k0
   have hy:y≠x:=λz=>hj (Bx M.tnd (z▸e) hi)
   have hcc:c'≠c:=λz=>hy (M.cinj y x c (z▸e1) hc)
   refine⟨c',e1,ov,n.sameBut hs hcc,λd' hd'=>?_⟩
   simp only[Be,hj,lO3]at hd';obtain⟨v',e1,e2⟩:=qq d' hd';exact⟨v',e1,Cr.mono S _ _ e2⟩
 ·obtain⟨n,ov,z⟩:=M.cok y c' e;by_cases hcc:c'=c
  ·subst hcc;exact⟨n,_,hn⟩
  ·exact⟨n,ov,z.sameBut hs hcc⟩
noncomputable def Ag (m1 m2:Mn Fl):Mn Fl:=Af m1 λfl=>match fl with
 |.next=>m2
 |f=>A8 f
noncomputable def Ex (c:Mn Bool)(m1 m2:Mn Fl):Mn Fl:=Af c λb=>if b then m1 else m2
theorem zKX:Xj G C [] (A8 .next):=.mk <| λF s ρ st K W=>At.ret λQ E kk=>wpAny_execs_nil (kk _ s ρ K Ev.refl rfl)
theorem zG8(h1:SS G C t m1)(h2:Xj G C ts m2):Xj G C (t::ts) (Ag m1 m2):=.mk <| λF s ρ st K W d st' Q E hm kk=>by
 refine Bk hm λfl st1 e1 e2=>wpAny_execs_cons (h1.run F s ρ st K W fl st1 _ _ e1 λf s1 ρ1 K1 x1 r1=>?_)
 cases fl with
 |next=>cases(show f=.next from r1);exact h2.run F s1 ρ1 st1 K1 W d st' _ _ e2 λf s2 ρ2 K2 x2 r2=>kk f s2 ρ2 K2 (x1.trans x2) r2
 |brk=>cases(show f=.brk from r1);cases e2;exact kk _ s1 ρ1 K1 x1 rfl
 |cont=>cases(show f=.cont from r1);cases e2;exact kk _ s1 ρ1 K1 x1 rfl
 |ret d=>obtain⟨v,rfl,r⟩:=r1;cases e2;exact kk _ s1 ρ1 K1 x1 ⟨v,rfl,r⟩
theorem zAu(h:SE G C e m):SS G C (.Return (some e) pos) (Af m λd=>A8 (.ret d)):=.mk <| λF s ρ st K W=>by
 show At F F.P s ρ st (zMz G) (do standAt pos;return .ret (←eval e F.env)) _
 exact At.stand (At.bind (h.run F s ρ st K) λv s' ρ' d st' K' x r=>At.pure K' ⟨v,rfl,r⟩)
theorem zGM:SS G C (.Pass pos) (A8 .next):=.mk <| λF s ρ st K W=>At.ret λQ E kk=>wpAny_Pass (kk _ s ρ K Ev.refl rfl)
theorem zF6:SS G C (.Break pos) (A8 .brk):=.mk <| λF s ρ st K W=>At.ret λQ E kk=>lN9 (lL9 (lO1 (kk _ s ρ K Ev.refl rfl)))
theorem We:SS G C (.Continue pos) (A8 .cont):=.mk <| λF s ρ st K W=>At.ret λQ E kk=>lN9 (lL9 (lO1 (kk _ s ρ K Ev.refl rfl)))
theorem zML(hc:SB G C c mc)(h1:Xj G C b1 m1)(h2:Xj G C b2 m2):SS G C (.If c b1 b2 pos) (Ex mc m1 m2):=.mk <| λF s ρ st K W=>by
 refine At.stand (At.bind (hc.run F s ρ st K) λv s' ρ' d st' K' x r=>?_)
 cases(show d=v from r)
 cases v with
 |true=>exact h1.run F s' ρ' _ K' W
 |false=>exact h2.run F s' ρ' _ K' W
theorem Pt(K:Ok F s ρ st)(hi:C.tbl[i]? =some x)(hx:C.names.lookup x=some .local)(r:Cr G s.heap ρ d v)(h:∀s',Ok F s' ρ ⟨Be st.loc i d,st.sto⟩->Ev F.P s.heap ρ s'.heap ρ->Q () s'):wpAny G.M F.A (storeName F.env x v) Q E s:=by
 obtain⟨m,n,q⟩:=K.frm.ns;refine wpAny_storeName_local (K.sees.loc x hx) n (λh' hn hs=>?_) (by rw[K.frm.kind];rfl)
 obtain⟨I',x',F'⟩:=K.frm.set_local K.inv hi (K.sees.loc x hx) n q hn hs r (s.toks+1)
 exact h _ (K.stepS (st':=⟨Be st.loc i d,st.sto⟩) I' F') x'
theorem S4(K:Ok F s ρ st)(W:Wr F)(hi:C.tbl[i]? =some x)(hx:C.names.lookup x=some .cell)(r:Cr G s.heap ρ d v)(h:∀s',Ok F s' ρ ⟨Be st.loc i d,st.sto⟩->Ev F.P s.heap ρ s'.heap ρ->Q () s'):wpAny G.M F.A (storeName F.env x v) Q E s:=by
 have hx:=K.sees.cell x hx;apply yo;intro _ k0
 obtain⟨c,e1,ov,n,q⟩:=K.frm.cell i x hi (.inl hx);apply k0
 refine wpAny_storeName_cell K.frm.kind hx e1 n λh' hn hs=>?_
 obtain⟨I',x',F'⟩:=K.frm.set_cell K.inv hi hx e1 (W x c e1) hn hs r s.toks;exact h _ (K.stepS (st':=⟨Be st.loc i d,st.sto⟩) I' F') x'
theorem Rk(hi:C.tbl[i]? =some x)(hx:C.names.lookup x=some .local∨C.names.lookup x=some .cell)(h:SE G C e m)(hs:∀F:Fr G C,zMh C.names F.env->swapsWith e (some (.Name x np)) pos.line F.env=pure false):SS G C (.Assign [.Name x np] e pos) (Af m (Ah i)):=.mk <| λF s ρ st K W d st' Q E hm kk=>Bk hm λa st1 e1 e2=>
 wpAny_Assign_Name (h.run F s ρ st K a st1 _ _ e1 λv s1 ρ1 K1 x1 r1=>by
  cases e2;rcases hx with hx|hx
  ·exact Pt K1 hi hx r1 λs2 K2 x2=>kk _ s2 ρ1 K2 (x1.nil.trans x2) rfl
  ·exact S4 K1 W hi hx r1 λs2 K2 x2=>kk _ s2 ρ1 K2 (x1.nil.trans x2) rfl) (hs F K.sees)
end
noncomputable def Dk:Bm->List Nat->List D->Bm
 |loc,p::ps,d::ds=>Dk (Be loc p d) ps ds
 |loc,_,_=>loc
noncomputable def Br:Bm:=λ_=>none
noncomputable def zFg:Fl->D
 |.ret d=>d
 |_=>.none
noncomputable def D2 (ps:List Nat)(body:Mn Fl):List D->Mn D:=λds st=>
 if ds.length=ps.length then
  match body ⟨Dk Br ps ds,st.sto⟩with
  |.ok fl st'=>.ok (zFg fl) ⟨st.loc,st'.sto⟩
  |.bot=>.bot
 else .bot
theorem zIO{ps:List Nat}{body:Mn Fl}{ds:List D}{st st':St}{d:D}{P:D->St->Prop}(h:D2 ps body ds st=.ok d st')(k:∀fl st1,ds.length=ps.length->body ⟨Dk Br ps ds,st.sto⟩=.ok fl st1->P (zFg fl) ⟨st.loc,st1.sto⟩):P d st':=by
 unfold D2 at h;by_cases hl:ds.length=ps.length
 ·rw[lO6 hl]at h
  cases e:body ⟨Dk Br ps ds,st.sto⟩with
  |ok fl st1=>rw[e]at h;cases h;exact k fl st1 hl e
  |bot=>rw[e]at h;cases h
 ·rw[lO5 hl]at h;cases h
noncomputable def SF (G:Gd)(n:Nat)(a:Addr)(F:List D->Mn D):Prop:=
 ∀A s ρ st ds vs d st' (Q:Value->Shared->Prop) (E:Value->Shared->Prop),Pl n A->Dg G s ρ st.sto->Ay G s.heap ρ ds vs->F ds st=.ok d st'->
  (∀v s' ρ',st'.loc=st.loc->Dg G s' ρ' st'.sto->Ev [] s.heap ρ s'.heap ρ'->Cr G s'.heap ρ' d v->Q v s')->wpAny G.M A (call (.ref a) vs) Q E s
theorem zG3:zMz G h ρ fl f->Cr G h ρ (zFg fl) (match f with|.ret v=>v|_=>.none):=λr=>by
 cases fl with
 |ret d=>obtain⟨v,rfl,r⟩:=r;exact r
 |next=>cases(show f=.next from r);rfl
 |brk=>cases(show f=.brk from r);rfl
 |cont=>cases(show f=.cont from r);rfl
theorem Fd:∀(names:List (Str×NameKind)) (n:Nat) (acc:List (Str×Addr)) (x:Str),((x,NameKind.cell)∈names∨(acc.lookup x).isSome=true)->((cellsFrom n names acc).lookup x).isSome=true
 |[],n,acc,x,h=>by rcases h with h|h;cases h;exact h
 |(y,k)::r,n,acc,x,h=>by
  unfold cellsFrom;split
  ·refine Fd r _ _ x ?_
   rcases h with h|h
   ·rcases lL5.mp h with e|m
    ·cases e;right;simp[List.lookup]
    ·exact .inl m
   ·right
    simp only[List.lookup];split
    ·rfl
    ·exact h
  ·rename_i hk;refine Fd r _ _ x ?_
   rcases h with h|h
   ·rcases lL5.mp h with e|m
    ·cases e;simp at hk
    ·exact .inl m
   ·exact .inr h
noncomputable def Z5 (G:Gd)(tbl:List Str)(kindOf:Str->Option NameKind)(h:Heap)(ρ:List Addr)(m cm:Str->Option Value)(loc:Bm):Prop:=
 ∀(i:Nat) (x:Str),tbl[i]? =some x->∀d,loc i=some d->(kindOf x=some .local->∃v,m x=some v/\Cr G h ρ d v)/\((kindOf x=some .cell∨kindOf x=some .free)->∃v,cm x=some v/\Cr G h ρ d v)
theorem Z2{kindOf:Str->Option NameKind}(tnd:tbl.Nodup)(hh:Bs (λ(i:Nat) x=>tbl[i]? =some x) is xs):∀(ds:List D) (vs:List Value) (m cm:Str->Option Value) (loc:Bm),Ay G h ρ ds vs->ds.length=is.length->Z5 G tbl kindOf h ρ m cm loc->
  Z5 G tbl kindOf h ρ (bindL kindOf (xs.zip vs) m) (bindC kindOf (xs.zip vs) cm) (Dk loc is ds):=by
 induction hh with
 |nil=>
  intro ds vs m cm loc r hl M
  cases ds with
  |nil=>exact M
  |cons _ _=>simp at hl
 | @cons i x is xs hx hxs ih=>
  intro ds vs m cm loc r hl M
  cases ds with
  |nil=>simp at hl
  |cons d ds=>
   obtain⟨v,vr,rfl,r1,r2⟩:=r;refine ih ds vr _ _ (Be loc i d) r2 (by simpa using hl) λj y hy d' hd'=>?_
   by_cases hj:j=i
   ·subst hj;rw[hx]at hy;cases hy;simp only[Be,lO4]at hd'
    cases hd';refine⟨λk=>⟨v,by simp[k],r1⟩,λk=>⟨v,?_,r1⟩⟩
    have:¬kindOf x=some .local:=λz=>by rw[z]at k;rcases k with k|k<;>cases k
    simp[this]
   ·simp only[Be,hj,lO3]at hd';have hne:y≠x:=λz=>hj (Bx tnd (z▸hy) hx)
    obtain⟨q1,q2⟩:=M j y hy d' hd';refine⟨λk=>?_,λk=>?_⟩
    ·obtain⟨v',e1,e2⟩:=q1 k;refine⟨v',?_,e2⟩
     split
     ·simp[hne,e1]
     ·exact e1
    ·obtain⟨v',e1,e2⟩:=q2 k;refine⟨v',?_,e2⟩
     split
     ·exact e1
     ·simp[hne,e1]
structure zJq (G:Gd)(a:Addr)(fd:FuncData)(body:List Stmt)(xs:List Str):Prop where
 obj:∃o,G.h0.get? a=some o/\o.data=.func fd
 body:fd.body=.stmts body
 glob:fd.globals=mainGlobals
 clo:fd.closure=[]
 bi:fd.builtins=builtinsNs
 code:G.h0.CodeRec fd.code fd.qualname
 lim:G.h0.NoLimit
 kind:fd.scope.kind=.function
 co:fd.scope.isCoroutine=false
 gen:fd.scope.isGenerator=false
 bind:∀vs:List Value,vs.length=xs.length->bindArgs fd ⟨vs,[]⟩=pure (xs.zip vs)
 par:∀x,x∈xs->fd.scope.names.lookup x=some .local∨fd.scope.names.lookup x=some .cell
 nofree:∀x,x∈fd.scope.names->x.2≠.free
theorem U0(g:Ci h h')(x:h.CodeRec c q):h'.CodeRec c q:=by
 apply yo;intro _ k0
 obtain⟨c,oc,vs,tq,hc,hoc,hdc,hq⟩:=x;apply k0
 exact⟨c,oc,vs,tq,hc,g _ _ hoc,hdc,hq⟩
theorem Ps{xs:List Str}{vs:List Value}:∀p,p∈xs.zip vs->p.1∈xs:=λp m=>(List.of_mem_zip m).1
theorem zHU{G:Gd}{a:Addr}{fd:FuncData}{body:List Stmt}{xs:List Str}{is:List Nat}{tbl:List Str}{n:Nat}{m:Mn Fl}(Fi:zJq G a fd body xs)(tnd:tbl.Nodup)
  (hi:Bs (λ(i:Nat) x=>tbl[i]? =some x) is xs) (hb:Xj G ⟨fd.scope.names,tbl,n,fd.code,fd.qualname++".<locals>."⟩ body m):SF G (n+1) a (D2 is m):=by
 intro A s ρ st ds vs d st' Q E R I r hm;refine zIO (P:=λd st'=>(∀v s' ρ',st'.loc=st.loc->Dg G s' ρ' st'.sto->Ev [] s.heap ρ s'.heap ρ'->Cr G s'.heap ρ' d v->Q v s')->wpAny G.M A (call (.ref a) vs) Q E s) hm λfl st1 hlen hm kk=>?_
 have hvl:vs.length=xs.length:=by rw[r.all2.length,hlen,hi.length]
 obtain⟨o,ho,hdata⟩:=Fi.obj;have g0:Ci G.h0 s.heap:=I.base
 refine wpAny_call (codeAny_call_cells (fd:=fd) (binds:=xs.zip vs) (by have:=R.depth;exact Cp (Ae x0 (.n 1000)) [Ac (.a x0 (.a x1 (.n 1))) (.n 900),Ac (.n 0) x1] rT this (lq5 _)) (I.base _ _ ho) hdata (Fi.lim.keeps g0) (U0 g0 Fi.code) Fi.body (Fi.bind vs hvl) Fi.clo
  (λp m=>?_) (λs₁ X=>?_) Fi.co Fi.gen Fi.kind)
 ·rcases Fi.par p.1 (Ps p m)with h|h
  ·exact .inl h
  ·exact .inr ⟨h,Fd _ _ _ _ (.inl (mem_of_lookup h))⟩
 generalize hE:callEnvC fd s.heap.objs.size a=env at X ⊢
 have eloc:env.locals=s.heap.objs.size:=by rw[←hE];rfl
 have escope:env.scope=fd.scope:=by rw[←hE];rfl
 have ekind:∀x,env.kindOf x=fd.scope.names.lookup x:=λx=>by unfold Env.kindOf;rw[escope]
 have ecells:env.cells=cellsFrom (s.heap.objs.size+1) fd.scope.names []:=by rw[←hE];rfl
 obtain⟨h₁,tk,hs₁⟩:=X.toInCall.same;have g1:Ci s.heap s₁.heap:=X.toInCall.keep
 have z1:s.heap.objs.size<=s₁.heap.objs.size:=by
  obtain⟨oL,_,_,hoL,_⟩:=X.toInCall.ns;have:=lM0 hoL
  rw[eloc]at this;exact lM6 this
 have I₁:Dg G s₁ ρ st.sto:=by
  have:=I.grow (h':=h₁) (by rw[hs₁]at g1;exact g1) (by rw[hs₁]at z1;exact z1) tk
  rw[hs₁];exact this
 have hcell_size:∀x c,env.cells.lookup x=some c->s.heap.objs.size<c:=λx c e=>eloc▸X.above x c (mem_of_lookup e)
 have hM:Z5 G tbl env.kindOf s₁.heap ρ (bindL env.kindOf (xs.zip vs) λ_=>none) (bindC env.kindOf (xs.zip vs) λ_=>none) (Dk Br is ds):=
  Z2 tnd hi ds vs _ _ _ (Ay.mono g1.stb _ _ r) hlen λi x _ d hd=>by cases hd
 have Wp:∀x c,env.cells.lookup x=some c->c∈(env.locals::env.cells.filterMap λp=>env.cells.lookup p.1):=λx c e=>lq4 _ (List.mem_filterMap.mpr ⟨(x,c),mem_of_lookup e,e⟩)
 have Pp:∀p,p∈(env.locals::env.cells.filterMap λp=>env.cells.lookup p.1)->s.heap.objs.size<=p/\(p=env.locals∨∃x,env.cells.lookup x=some p):=λp mp=>by
  rcases lL5.mp mp with rfl|mp
  ·exact⟨by rw[eloc];exact lN4 _,.inl rfl⟩
  ·apply yo;intro _ k0
   obtain⟨⟨x,c⟩,mc,e⟩:=List.mem_filterMap.mp mp;apply k0
   exact⟨lM6 (hcell_size x p e),.inr ⟨x,e⟩⟩
 generalize hP:(env.locals::env.cells.filterMap λp=>env.cells.lookup p.1)=P at Wp Pp
 refine hb.run ⟨A.deeper env,P,env⟩ s₁ ρ ⟨Dk Br is ds,st.sto⟩ ⟨⟨R.hd,?_,?_⟩,⟨λx h=>(ekind x).trans h,λx h=>(ekind x).trans h,λx h=>.inr ((ekind x).trans h),λx h=>(ekind x).trans h⟩,I₁,{
  kind:=by rw[escope];exact Fi.kind
  glob:=by rw[←hE];exact Fi.glob
  bi:=by rw[←hE];exact Fi.bi
  ns:=⟨_,X.toInCall.ns,λi x e k d hd=>(hM i x e d hd).1 k⟩
  cell:=λi x e k=>by
   have hk:(x,NameKind.cell)∈fd.scope.names:=by
    rcases k with k|k
    ·rw[ekind]at k;exact mem_of_lookup k
    ·rw[ekind]at k;exact absurd rfl (Fi.nofree _ (mem_of_lookup k))
   obtain⟨c,hc⟩:=lB1.mp (Fd fd.scope.names (s.heap.objs.size+1) [] x (.inl hk))
   rw[←ecells]at hc;exact⟨c,hc,_,X.cell x c hc,λd hd=>(hM i x e d hd).2 k⟩
  cok:=λx c e=>⟨λmm=>Nat.lt_asymm (I.mem_lt mm) (hcell_size x c e),_,X.cell x c e⟩
  cinj:=λx y c e1 e2=>name_of_addr X.apart (mem_of_lookup e1) (mem_of_lookup e2)
  lrho:=by rw[eloc];exact I.size_notin
  lP:=by rw[←hP];exact lq1
  own:=λp mp=>⟨I.h0_le (Pp p mp).1,(Pp p mp).2⟩
  tnd:=tnd},.inr (by rw[←hE];rfl),.inr (by rw[←hE];rfl)⟩ Wp fl st1 _ _ hm λf s' ρ' K' x r'=>?_
 ·have:=R.depth;show A.depth+1+n<=900;exact Cp (Ac (.a (.a x0 (.n 1)) x1) (.n 900)) [Ac (.a x0 (.a x1 (.n 1))) (.n 900)] rT this
 ·have:=R.units;show A.units+3+10*n<=9000;exact Cp (Ac (.a (.a x0 (.n 3)) (.m 10 x1)) (.n 9000)) [Ac (.a x0 (.m 10 (.a x1 (.n 1)))) (.n 9000)] rT this
 ·exact kk _ s' ρ' rfl K'.inv (((Ci.ev g1 z1).trans x).less λp mp=>.inr (Pp p mp).1) (zG3 r')
noncomputable def Fs (G:Gd)(x:Str)(v:Value):Prop:=∃mg,G.h0.Ns mainGlobals mg/\mg x=some v
noncomputable def Dj (G:Gd)(x:Str)(v:Value):Prop:=∃mg mb,G.h0.Ns mainGlobals mg/\mg x=none/\G.h0.Ns builtinsNs mb/\mb x=some v
section
variable {G:Gd}{C:Cx}{F:Fr G C}{s:Shared}{ρ:List Addr}{st:St}
theorem My(K:Ok F s ρ st)(hg:Fs G x v)(hn:C.names.lookup x=some .globalImplicit)(hd:(x==("__debug__":Str))=false)(h:Q v s):
  wpAny G.M F.A (eval (.Name x pos) F.env) Q E s:=by
 obtain⟨mg,n,e⟩:=hg;refine Calls.Name_function_global K.frm.kind (K.sees.glob x hn) (Calls.loadGlobal_global (mg:=mg) ?_ e h) hd
 rw[K.frm.glob];exact n.keeps K.inv.base
theorem Ei(K:Ok F s ρ st)(hg:Dj G x v)(hn:C.names.lookup x=some .globalImplicit)(hd:(x==("__debug__":Str))=false)(h:Q v s):
  wpAny G.M F.A (eval (.Name x pos) F.env) Q E s:=by
 obtain⟨mg,mb,n,e,n',e'⟩:=hg;refine Calls.Name_function_global K.frm.kind (K.sees.glob x hn) (Calls.loadGlobal_builtin (mg:=mg) (mb:=mb) ?_ e ?_ e' h) hd
 ·rw[K.frm.glob];exact n.keeps K.inv.base
 ·rw[K.frm.bi];exact n'.keeps K.inv.base
theorem Xy(hg:Fs G x (.int i t))(hn:C.names.lookup x=some .globalImplicit)(hd:(x==("__debug__":Str))=false):SE G C (.Name x pos) (A8 (.int i)):=.mk <| λF s ρ st K=>
 At.ret λQ E kk=>My K hg hn hd (kk _ s ρ K Ev.refl ⟨_,rfl⟩)
theorem zJ5:SA G C [] (A8 []):=.mk <| λF s ρ st pos K=>At.pure K (show Ay _ _ _ _ _ from rfl)
theorem zHH(he:SE G C e m)(hs:SA G C es ms)(hst:∀env,starEach (e::es) env=(false,eval e env)::starEach es env):
  SA G C (e::es) (Af m λd=>Af ms λds=>A8 (d::ds)):=.mk <| λF s ρ st pos K=>by
 rw[hst];show At F [] s ρ st (zOZ G) (eval e F.env >>= λv=>pure [v] >>= λhere=>holding here (spliced (backTo pos (starEach es F.env))) >>= λr=>pure (here++r)) _
 refine At.bind (he.run F s ρ st K) λv s' ρ' d st' K' x r=>?_
 refine At.ofEq (t':=holding [v] (spliced (backTo pos (starEach es F.env))) >>= λr=>pure ([v]++r)) rfl ?_
 refine At.bind (hs.run F s' ρ' _ pos K').hold λvs s'' ρ'' ds st'' K'' x2 r2=>?_
 refine At.pure K'' ?_
 show Ay _ _ _ _ _
 exact⟨v,vs,rfl,Cr.mono (x2.stb K'.inv .nil) _ _ r,r2⟩
theorem SF.at(h:SF G n a f)(hl:n<=C.lvl)(K:Ok F s ρ st)(r:Ay G s.heap ρ ds vs):At F [] s ρ st (RV G) (call (.ref a) vs) (f ds):=λd st' Q E hm kk=>
 h F.A s ρ st ds vs d st' Q E (K.room.le hl) K.inv r hm λv s' ρ' e I x r=>kk v s' ρ' ⟨K.room,K.sees,I,e▸K.frm.keep K.inv x,K.code,K.qual⟩ x r
theorem zHd(hg:Fs G f (.ref a))(hn:C.names.lookup f=some .globalImplicit)(hd:(f==("__debug__":Str))=false)(hfd:∃o fd,G.h0.get? a=some o∧o.data=.func fd)(hF:SF G n a fn)(hl:n≤C.lvl)(hs:SA G C (e::es) ms)(hst:∀env,starEach (e::es) env=(false,eval e env)::starEach es env):
  SE G C (.Call (.Name f np) (e::es) [] pos) (Af ms fn):=.mk <| λF s ρ st K d st' Q E hm kk=>Bk hm λds st1 e1 e2=>by
 show wpAny G.M F.A (eval (.Name f np) F.env >>= λfv=>callWith pos fv [] (backTo pos (starEach (e::es) F.env)) []) _ _ s
 refine lN9 (My K hg hn hd ?_)
 obtain⟨o,fd,ho,hfdd⟩:=hfd;refine Calls.callWith_function (o:=o) (fd:=fd) ?_
 have hev:backTo pos (starEach (e::es) F.env)=(false,eval e F.env)::backTo pos (starEach es F.env):=by rw[hst];rfl
 have h1:=hs.run F s ρ st pos K;rw[hev]at h1 ⊢;exact lD2 (h1 ds st1 _ _ e1 λvs s1 ρ1 K1 x1 r1=>⟨⟨K1.inv.base _ _ ho,hfdd⟩,hF.at hl K1 r1 d st' Q E e2 λv s2 ρ2 K2 x2 r2=>kk v s2 ρ2 K2 (x1.trans x2) r2⟩)
noncomputable def BF (G:Gd)(id:String)(f:List D->Mn D):Prop:=
 ∀C (F:Fr G C) s ρ st ds vs,Ok F s ρ st->Ay G s.heap ρ ds vs->At F [] s ρ st (RV G) (call (.builtin id) vs) (f ds)
theorem zFJ{f:Str}{id:String}{fn:List D→Mn D}{e:Expr}{es:List Expr}{ms:Mn (List D)}{np pos:Pos}(hg:Dj G f (.builtin id))(hn:C.names.lookup f=some .globalImplicit)(hd:(f==("__debug__":Str))=false)
  (hF:BF G id fn) (hs:SA G C (e::es) ms) (hst:∀env,starEach (e::es) env=(false,eval e env)::starEach es env) (hpl:∀env,(backTo pos (starEach es env)).any (·.1)=false):
  SE G C (.Call (.Name f np) (e::es) [] pos) (Af ms fn):=.mk <| λF s ρ st K d st' Q E hm kk=>Bk hm λds st1 e1 e2=>by
 show wpAny G.M F.A (eval (.Name f np) F.env >>= λfv=>callWith pos fv [] (backTo pos (starEach (e::es) F.env)) []) _ _ s
 refine lN9 (Ei K hg hn hd ?_)
 have hev:backTo pos (starEach (e::es) F.env)=(false,eval e F.env)::backTo pos (starEach es F.env):=by rw[hst];rfl
 have h1:=hs.run F s ρ st pos K;rw[hev]at h1 ⊢;exact lB5 (by show(false||_)=false;rw[lL3];exact hpl F.env) (lD2 (h1 ds st1 _ _ e1 λvs s1 ρ1 K1 x1 r1=>hF C F s1 ρ1 st1 ds vs K1 r1 d st' Q E e2 λv s2 ρ2 K2 x2 r2=>kk v s2 ρ2 K2 (x1.trans x2) r2))
end
structure zFq (G:Gd)(I:Addr)(S:List Addr)(tg:Expr->Prop)(g:C3->Prop)(T:List D->Heap->List Addr->C3->Prop)(Md:Value->List D->Heap->List Addr->C3->Prop):Prop where
 own:∀rem h ρ σ,T rem h ρ σ->∀q,q∈S->X3 G h ρ σ q
 ownM:∀v rem h ρ σ,Md v rem h ρ σ->∀q,q∈S->X3 G h ρ σ q
 keep:∀(P:List Addr) rem s ρ σ s' ρ' σ',T rem s.heap ρ σ->Dg G s ρ σ->Dg G s' ρ' σ'->Ev P s.heap ρ s'.heap ρ'->NT s.heap P->g σ'->T rem s'.heap ρ' σ'
 next:∀(A:Around) s ρ σ rem (Q:Option Value->Shared->Prop) (E:Value->Shared->Prop),A.handled=none->Dg G s ρ σ->T rem s.heap ρ σ->
  (rem=[]->∀h' tk,It S s.heap h'->Q none {s with heap:=h',toks:=tk})->
  (∀d rest,rem=d::rest->∀v h' tk,It S s.heap h'->Cr G h' ρ d v->Md v rest h' ρ σ->Q (some v) {s with heap:=h',toks:=tk})->wpAny G.M A (pyNext (.ref I)) Q E s
 go:∀(A:Around) s ρ σ tgt v rest (Q:Unit->Shared->Prop) (E:Value->Shared->Prop),tg tgt->Dg G s ρ σ->Md v rest s.heap ρ σ->
  (∀h',It S s.heap h'->T rest h' ρ σ->Q () {s with heap:=h'})->wpAny G.M A (letOwnedTupleGo tgt (.ref I) v) Q E s
noncomputable def Jl (G:Gd)(I:Addr)(T:List D->Heap->List Addr->C3->Prop):Prop:=
 ∀(A:Around) s ρ σ rem (Q:Value->Shared->Prop) (E:Value->Shared->Prop),A.handled=none->T rem s.heap ρ σ->Q (.ref I) s->wpAny G.M A (pyIter (.ref I)) Q E s
structure ST (G:Gd)(C:Cx)(b:Bool)(t:Expr)(f:D->Bm->Option Bm):Prop where
 run:∀(F:Fr G C) s ρ st d v loc' (Q:Unit->Shared->Prop) (E:Value->Shared->Prop),Ok F s ρ st->(b=true->Wr F)->Cr G s.heap ρ d v->f d st.loc=some loc'->
  (∀s',Ok F s' ρ ⟨loc',st.sto⟩->Ev F.P s.heap ρ s'.heap ρ->Q () s')->wpAny G.M F.A (assign t F.env v) Q E s
noncomputable def zMV (k:Mn Fl):Fl->Mn Fl
 |.next=>k
 |.cont=>k
 |.brk=>A8 .next
 |.ret d=>A8 (.ret d)
open Classical in
noncomputable def By (tgt:D->Bm->Option Bm)(g:C3->Prop)(body:Mn Fl):List D->Mn Fl
 |[]=>λst=>if g st.sto then .ok .next st else .bot
 |d::rest=>λst=>if g st.sto then
   match tgt d st.loc with
   |none=>.bot
   |some loc'=>Af body (zMV (By tgt g body rest)) ⟨loc',st.sto⟩
  else .bot
section
variable {tgt:D->Bm->Option Bm}{g:C3->Prop}{body:Mn Fl}{d:D}{rest:List D}{st:St}
open Classical in
theorem Tq:By tgt g body [] st=if g st.sto then .ok .next st else .bot:=rfl
open Classical in
theorem Ze:By tgt g body (d::rest) st=if g st.sto then
   match tgt d st.loc with
   |none=>.bot
   |some loc'=>Af body (zMV (By tgt g body rest)) ⟨loc',st.sto⟩
  else .bot:=rfl
theorem Ud(h:By tgt g body ds st=.ok fl st'):g st.sto:=by
 by_cases hg:g st.sto
 ·exact hg
 ·cases ds with
  |nil=>rw[Tq,lO5 hg]at h;cases h
  |cons d r=>rw[Ze,lO5 hg]at h;cases h
theorem zHl{P:Prop}(h:By tgt g body (d::rest) st=.ok fl st')(k:∀loc' fl1 st1,tgt d st.loc=some loc'->body ⟨loc',st.sto⟩=.ok fl1 st1->zMV (By tgt g body rest) fl1 st1=.ok fl st'->P):P:=by
 have hg:=Ud h;rw[Ze,lO6 hg]at h
 cases e:tgt d st.loc with
 |none=>rw[e]at h;cases h
 |some loc'=>rw[e]at h;exact Bk h λfl1 st1 e1 e2=>k loc' fl1 st1 e e1 e2
end
section
variable {G:Gd}{C:Cx}{F:Fr G C}
theorem zKR(X:zFq G I S tg g T Md)(ht:tg target)(hT:ST G C true target tf)(hB:Xj G C body m)(W:Wr F)(hS:∀q,q∈S->hs.objs.size<=q)(kk:∀f s' ρ',Ok F s' ρ' st'->Ev F.P hs ρs s'.heap ρ'->zMz G s'.heap ρ' fl f->R (.ok f) s'):
  ∀(ds:List D) (s:Shared) (ρ:List Addr) (st:St),Ok F s ρ st->T ds s.heap ρ st.sto->Ev F.P hs ρs s.heap ρ->By tf g m ds st=.ok fl st'->
   codeAny G.M F.A (.forLoop target (.ref I) body [] F.env) R s:=by
 intro ds
 induction ds with
 |nil=>
  intro s ρ st K hTT x hm;have hg:=Ud hm;rw[Tq,lO6 hg]at hm
  cases hm;refine lK6 ?_
  show wpAny _ F.A ((forTurn target (.ref I) body [] F.env).onRaise (λx=>do noteFrame x F.env;theTreesLotGoes x)) _ _ s
  refine wpAny_noted ?_
  simp only[forTurn];refine lN9 (lL9 (lN9 (wpAny_onRaise (X.next F.A s ρ _ [] _ _ K.room.hd K.inv hTT (λ_ h' tk ho=>?_) (λd rest e=>by cases e)))))
  exact lO1 (And.intro rfl (codeAny_block (wpAny_execs_nil (kk _ _ ρ (K.only ho (X.own _ _ _ _ hTT) tk) (x.only ho λq m=>.inl (hS q m)) rfl))))
 |cons d rest ih=>
  intro s ρ st K hTT x hm;have hg:=Ud hm;refine zHl hm λloc' fl1 st1 e1 e2 e3=>?_
  refine lK6 ?_
  show wpAny _ F.A ((forTurn target (.ref I) body [] F.env).onRaise (λx=>do noteFrame x F.env;theTreesLotGoes x)) _ _ s
  refine wpAny_noted ?_
  simp only[forTurn];refine lN9 (lL9 (lN9 (wpAny_onRaise (X.next F.A s ρ st.sto (d::rest) _ _ K.room.hd K.inv hTT (λe=>by cases e) (λd' rest' e v h' tk ho r hM=>?_)))))
  cases e;have K₁:=K.only ho (X.own _ _ _ _ hTT) tk;refine lN9 (X.go F.A _ ρ st.sto target v rest _ _ ht K₁.inv hM λh₂ ho₂ hT₂=>?_)
  have K₂:=K₁.only ho₂ (X.ownM _ _ _ _ _ hM) tk;refine lN9 (hT.run F {s with heap:=h₂,toks:=tk} ρ st d v loc' _ _ K₂ (λ_=>W) (Cr.mono (ho₂.stb (X.ownM _ _ _ _ _ hM)) d v r) e1 λs₃ K₃ x₃=>?_)
  refine lN9 (hB.run F s₃ ρ _ K₃ W fl1 st1 _ _ e2 λf s₄ ρ₄ K₄ x₄ r₄=>?_)
  have xx:Ev F.P hs ρs s₄.heap ρ₄:=(((x.only ho λq m=>.inl (hS q m)).only ho₂ λq m=>.inl (hS q m)).trans x₃).trans x₄
  have again:∀(_:By tf g m rest st1=.ok fl st'),codeAny G.M F.A (.forLoop target (.ref I) body [] F.env) R s₄:=λe4=>
   ih s₄ ρ₄ st1 K₄ (X.keep F.P rest s₃ ρ st.sto s₄ ρ₄ st1.sto (X.keep F.P rest {s with heap:=h₂,toks:=tk} ρ st.sto s₃ ρ st.sto hT₂ K₂.inv K₃.inv x₃ K₂.frm.nt hg) K₃.inv K₄.inv x₄ K₃.frm.nt (Ud e4)) xx e4
  cases fl1 with
  |next=>cases(show f=.next from r₄);exact lO1 (And.intro rfl (again e3))
  |cont=>cases(show f=.cont from r₄);exact lO1 (And.intro rfl (again e3))
  |brk=>cases(show f=.brk from r₄);cases e3;exact lO1 (kk _ s₄ ρ₄ K₄ xx rfl)
  |ret d'=>obtain⟨v',rfl,r₄⟩:=r₄;cases e3;exact lO1 (kk _ s₄ ρ₄ K₄ xx ⟨v',rfl,r₄⟩)
structure Js where
 ds:List D
 g:C3->Prop
noncomputable def Ye (G:Gd)(C:Cx)(F:Fr G C)(s:Shared)(ρ:List Addr)(tg:Expr->Prop)(src:Js)(st':St)(Q:Value->Shared->Prop):Prop:=
 ∀(s₂:Shared) (ρ':List Addr) (I:Addr) (S:List Addr) (T:List D->Heap->List Addr->C3->Prop) (Md:Value->List D->Heap->List Addr->C3->Prop),Ok F s₂ ρ' st'->Ev [] s.heap ρ s₂.heap ρ'->zFq G I S tg src.g T Md->Jl G I T->T src.ds s₂.heap ρ' st'.sto->(∀q,q∈S->s.heap.objs.size<=q)->Q (.ref I) s₂
structure SI (G:Gd)(C:Cx)(e:Expr)(tg:Expr->Prop)(m:Mn Js):Prop where
 run:∀(F:Fr G C) s ρ st src st' (Q:Value->Shared->Prop) (E E':Value->Shared->Prop),Ok F s ρ st->m st=.ok src st'->Ye G C F s ρ tg src st' Q->wpAny G.M F.A (eval e F.env) (λx s₁=>wpAny G.M F.A (pyIter x) Q E s₁) E' s
theorem zL3(hI:SI G C iter tg mi)(ht:tg target)(hT:ST G C true target tf)(hB:Xj G C body m)(hs:∀env x,foldedSetIterable iter env x=pure x):SS G C (.For target iter body [] pos) (Af mi λsrc=>By tf src.g m src.ds):=.mk <| λF s ρ st K W d st' Q E hm kk=>Bk hm λsrc st1 e1 e2=>
 wpAny_For (hI.run F s ρ st src st1 _ _ _ K e1 λs₂ ρ' I S T Md K' x X _ hT0 hS=>zKR X ht hT hB W (hs:=s.heap) (ρs:=ρ) hS (λf s' ρ' K x r=>kk f s' ρ' K x r) src.ds s₂ ρ' st1 K' hT0 x.nil e2) (hs F.env)
theorem zIZ(hi:C.tbl[i]? =some x)(hx:C.names.lookup x=some .local):ST G C b (.Name x pos) (λd loc=>some (Be loc i d)):=.mk <| λF s ρ st d v loc' Q E K W r e h=>by
 cases e;exact wpAny_assign_Name (Pt K hi hx r h)
theorem zFo(hi:C.tbl[i]? =some x)(hx:C.names.lookup x=some .cell):ST G C true (.Name x pos) (λd loc=>some (Be loc i d)):=.mk <| λF s ρ st d v loc' Q E K W r e h=>by
 cases e;exact wpAny_assign_Name (S4 K (W rfl) hi hx r h)
structure zLP (G:Gd)(C:Cx)(b:Bool)(ts:List Expr)(f:List D->Bm->Option Bm):Prop where
 run:∀(F:Fr G C) s ρ st ds vs loc' (Q:Unit->Shared->Prop) (E:Value->Shared->Prop),Ok F s ρ st->(b=true->Wr F)->Ay G s.heap ρ ds vs->f ds st.loc=some loc'->
  (∀s',Ok F s' ρ ⟨loc',st.sto⟩->Ev F.P s.heap ρ s'.heap ρ->Q () s')->wpAny G.M F.A (assignInOrder ((assignEach ts F.env).map (·.2)) vs) Q E s
noncomputable def Fz:List D->Bm->Option Bm
 |[],loc=>some loc
 |_,_=>none
noncomputable def Bl (f:D->Bm->Option Bm)(g:List D->Bm->Option Bm):List D->Bm->Option Bm
 |d::ds,loc=>(f d loc).bind (g ds)
 |[],_=>none
theorem zHO:zLP G C b [] Fz:=.mk <| λF s ρ st ds vs loc' Q E K W r e h=>by
 cases ds with
 |nil=>
  subst r
  cases(show some st.loc=some loc' from e)
  exact lO1 (h s K Ev.refl)
 |cons _ _=>cases(show none=some loc' from e)
theorem zD9(h1:ST G C b t f)(h2:zLP G C b ts g)(hst:∀env,assignEach (t::ts) env=(false,assign t env)::assignEach ts env):
  zLP G C b (t::ts) (Bl f g):=.mk <| λF s ρ st ds vs loc' Q E K W r e h=>by
 cases ds with
 |nil=>cases(show none=some loc' from e)
 |cons d ds=>
  obtain⟨v,vr,rfl,r1,r2⟩:=r;obtain⟨loc₁,e1,e2⟩:=lB3.mp e;rw[hst];show wpAny G.M F.A (holding vr (assign t F.env v) >>= λ_=>assignInOrder ((assignEach ts F.env).map (·.2)) vr) Q E s
  exact lN9 (lL8 (h1.run F s ρ st d v loc₁ _ _ K W r1 e1 λs₁ K₁ x₁=>
   h2.run F s₁ ρ ⟨loc₁,st.sto⟩ ds vr loc' Q E K₁ W (Ay.mono (x₁.stb K.inv K.frm.nt.t) _ _ r2) e2 λs₂ K₂ x₂=>h s₂ K₂ (x₁.trans x₂)))
noncomputable def Jg (n:Nat)(f:List D->Bm->Option Bm):D->Bm->Option Bm
 |.tup ds,loc=>if ds.length=n then f ds loc else none
 |_,_=>none
theorem zHJ{n:Nat}{f:List D->Bm->Option Bm}{d:D}{loc loc':Bm}{P:Prop}(h:Jg n f d loc=some loc')(k:∀ds,d=.tup ds->ds.length=n->f ds loc=some loc'->P):P:=by
 cases d with
 |tup ds=>
  by_cases hl:ds.length=n
  ·exact k ds rfl hl ((lO6 hl).symm.trans h)
  ·cases(lO5 hl).symm.trans h
 |_=>cases h
theorem Eg{α:Type}{M:Model}{A:Around}{s:Shared}{t:Sem α}{Q:α->Shared->Prop}{E:Value->Shared->Prop}(h:wpAny M A t (λa s'=>s.heap.objs.size<=s'.heap.objs.size->Q a s') E s):wpAny M A t Q E s:=
 lO0 (Lg h) (λ_ _ q=>q.2 q.1) λ_ _ q=>q.2
theorem Op{s:Shared}{h':Heap}(x:Heap.ExtBut s.heap.objs.size s.heap h'):Ci s.heap h':=λb o e=>x b o (lN0 (lM0 e)) e
theorem zFj{b:Bool}{ts:List Expr}{k n:Nat}{pos:Pos}{f:List D->Bm->Option Bm}(h1:zLP G C b ts f)(hn:∀env,(assignEach ts env).length=n)(hst:∀env,(assignEach ts env).findIdx? (·.1)=none):
  ST G C b (.Tuple ts k pos) (Jg n f):=.mk <| λF s ρ st d v loc' Q E K W r e0 h=>zHJ e0 λds ed hl e=>by
 subst ed;obtain⟨a,vs,rfl,hna,⟨nn,ho⟩,r⟩:=r;have hlen:vs.size=ds.length:=by have:=r.all2.length;simpa using this
 refine lN9 (lL9 ?_)
 unfold unpack;rw[hst F.env,show(assignEach ts F.env).length=vs.size by rw[hn,hlen,hl]]
 refine lN9 (lL8 (Eg (wpAny_unpackItems_tuple K.room.hd (items:=vs) ⟨_,ho,rfl,nn,rfl⟩ λh' hx z=>?_)))
 have g:=Op hx;exact h1.run F {s with heap:=h'} ρ st ds vs.toList loc' Q E (K.grow g z s.toks) W (Ay.mono g.stb _ _ r) e λs₂ K₂ x₂=>h s₂ K₂ ((g.ev z).trans x₂)
end
section
variable {G:Gd}{C:Cx}{F:Fr G C}{A:Around}{P:List Addr}{s:Shared}{ρ:List Addr}{σ:C3}{st:St}
noncomputable def Nj (T:String):Bool:=!["enumerate","zip","dict_itemiterator","dict_reverseitemiterator","odict_iterator","itertools.zip_longest","itertools.pairwise"].contains T
theorem H3(ho:s.heap.get? I=some o)(hc:o.cls=.type T)(hd:o.data=.fields vs)(hT:Nj T=true)(h:Q () s):
  wpAny G.M A (letOwnedTupleGo tgt (.ref I) v) Q E s:=by
 have key:∀a:Addr,wpAny G.M A (do
   let o ←load I
   match o.cls,o.data with
   |.type n,.fields vs=>
    if["enumerate","zip","dict_itemiterator","dict_reverseitemiterator","odict_iterator","itertools.zip_longest","itertools.pairwise"].contains n&&vs[0]? ==some (rawInt a)then
     rule "for.unpacks-the-owned-tuple"
     updateField I 0 .none
   |_,_=>pure ()) Q E s:=λa=>by
  refine lN9 (wpAny_load ho ?_)
  simp only[hc,hd];simp only[Nj,lG1]at hT;simp only[hT,Bool.false_and,lE6,lO3];exact lO1 h
 cases tgt<;>(try exact lO1 h)<;>(cases v<;>(first|exact lO1 h|exact key _))
theorem zGm(I:Dg G s ρ σ)(hT:T≠"tuple")(t:Nat):Rq G (s.heap.push {cls:=.type T,data:=.fields vs}) ρ s.heap.objs.size:=
 ⟨I.h0_size,I.size_notin,_,T,vs,lE1 _ rfl,rfl,hT,rfl⟩
theorem Gi{α:Type}{l:List α}{i:Nat}{d:α}{r:List α}(h:d::r=l.drop i):l[i]? =some d/\r=l.drop (i+1):=by
 have h1:l[i]? =some d:=by
  have:(l.drop i)[0]? =some d:=by rw[←h];rfl
  simpa using this
 refine⟨h1,?_⟩
 have:(l.drop i).drop 1=r:=by rw[←h];rfl
 simp only[←this,List.drop_drop]
theorem Jc{α:Type}{l:List α}{i:Nat}(h:[]=l.drop i):l.length<=i:=by
 have:=lO2 List.length h
 simp at this
 exact Ck (Ac x0 x1) [Cz (.n 0) x2,Ac x0 (.a x2 x1)] rT this (Ao _ _)
noncomputable def zCl (G:Gd)(I:Addr)(k:Nat)(ds:List D):List D->Heap->List Addr->C3->Prop:=λrem h ρ σ=>
 Rq G h ρ I/\σ[k]? =some (.list ds)/\∃a i,ρ[k]? =some a/\h.IsListIter I a i/\rem=ds.drop i
theorem zDt{I:Addr}{k:Nat}{ds:List D}:zFq G I [I] (λ_=>True) (λσ=>σ[k]? =some (.list ds)) (zCl G I k ds) (λ_=>zCl G I k ds) where
 own rem h ρ σ t q m:=by rw[lq0 m];exact .inl (.inl t.1)
 ownM v rem h ρ σ t q m:=by rw[lq0 m];exact .inl (.inl t.1)
 keep P rem s ρ σ s' ρ' σ' t I0 I' x N g:=by
  apply yo;intro _ k0
  obtain⟨it,e,a,i,e1,⟨o,ho,hc,hd⟩,e3⟩:=t;obtain⟨it',z⟩:=it.keep x N;apply k0
  exact⟨it',g,a,i,x.pre k a e1,⟨o,z.trans ho,hc,hd⟩,e3⟩
 next A s ρ σ rem Q E hh I0 t h1 h2:=by
  apply yo;intro _ k0
  obtain⟨it,e,a,i,e1,e2,e3⟩:=t;obtain⟨vs,hl,r⟩:=I0.sto k a (.list ds) e1 e;apply k0
  have hne:a≠I:=λz=>it.2.1 (z▸lD5 e1)
  cases rem with
  |nil=>
   have hi:vs[i]? =none:=by
    have:=r.all2.length
    have h3:=Jc e3;simp at this
    simp;exact lM7 (lM5 this) h3
   refine Eg (wpAny_pyNext_list_end hh e2 hl.list hi λh' x z=>?_)
   exact h1 rfl h' s.toks (Ks (λb o n e=>x b o n e) z it.notPrv)
  |cons d rest=>
   obtain⟨hd,hr⟩:=Gi e3;obtain⟨v,hv,rv⟩:=r.all2.get i d hd;have hv':vs[i]? =some v:=by simpa using hv
   refine wpAny_pyNext_list_item e2 hl.list hv' λh' hit' hs'=>?_
   have ho:It [I] s.heap h':=Ks (λb o n e=>(hs'.2 b n).trans e) (lM5 hs'.1.symm) it.notPrv
   have S:Lh s.heap ρ h' ρ:=ho.stb (σ:=σ) λq m=>by rw[lq0 m];exact .inl (.inl it)
   apply yo;intro _ k0
   obtain⟨o',ho',hc',hd'⟩:=id hit';apply k0
   exact h2 d rest rfl v h' s.toks ho (Cr.mono S _ _ rv) ⟨⟨it.1,it.2.1,o',_,_,ho',hc',by decide,hd'⟩,e,a,i+1,e1,hit',hr⟩
 go A s ρ σ tgt v rest Q E _ I0 t h:=by
  apply yo;intro _ k0
  obtain⟨it,e,a,i,e1,e2,e3⟩:=id t;obtain⟨o,ho,hc,hd⟩:=e2;apply k0
  exact H3 ho hc hd (by decide) (h s.heap K8 t)
theorem zCH:Jl G I (zCl G I k ds):=λA s ρ σ rem Q E hh t h=>by
 apply yo;intro _ k0
 obtain⟨it,e,a,i,e1,e2,e3⟩:=t;apply k0
 exact wpAny_pyIter_listiter e2 h
noncomputable def zL1 (G:Gd)(I t:Addr)(vs:Array Value)(ds:List D):List D->Heap->List Addr->C3->Prop:=λrem h ρ σ=>
 Rq G h ρ I/\t∉ρ/\Mt h t vs/\Ay G h ρ ds vs.toList/\∃i,h.IsTupleIter I t i/\rem=ds.drop i
theorem zHV{I t:Addr}{vs:Array Value}{ds:List D}:zFq G I [I] (λ_=>True) (λ_=>True) (zL1 G I t vs ds) (λ_=>zL1 G I t vs ds) where
 own rem h ρ σ t q m:=by rw[lq0 m];exact .inl (.inl t.1)
 ownM v rem h ρ σ t q m:=by rw[lq0 m];exact .inl (.inl t.1)
 keep P rem s ρ σ s' ρ' σ' tt I0 I' x N g:=by
  apply yo;intro _ k0
  obtain⟨it,n,ht,r,i,⟨o,ho,hc,hd⟩,e3⟩:=tt;obtain⟨it',z⟩:=it.keep x N;apply k0
  have S:=x.stb I0 N.t;obtain⟨n',ht'⟩:=S.tup t vs n ht;exact⟨it',n',ht',Ay.mono S _ _ r,i,⟨o,z.trans ho,hc,hd⟩,e3⟩
 next A s ρ σ rem Q E hh I0 tt h1 h2:=by
  apply yo;intro _ k0
  obtain⟨it,n,ht,r,i,e2,e3⟩:=tt;apply k0
  have htt:s.heap.IsTuple t vs:=by obtain⟨n,e⟩:=ht;exact⟨_,e,rfl,n,rfl⟩
  cases rem with
  |nil=>
   have hi:vs[i]? =none:=by
    have:=r.all2.length
    have h3:=Jc e3;simp at this
    simp;exact lM7 (lM5 this) h3
   refine Eg (wpAny_pyNext_tuple_end hh e2 htt hi λh' x z=>?_)
   exact h1 rfl h' s.toks (Ks (λb o n e=>x b o n e) z it.notPrv)
  |cons d rest=>
   obtain⟨hd,hr⟩:=Gi e3;obtain⟨v,hv,rv⟩:=r.all2.get i d hd;have hv':vs[i]? =some v:=by simpa using hv
   refine wpAny_pyNext_tuple_item e2 htt hv' λh' hit' hs'=>?_
   have ho:It [I] s.heap h':=Ks (λb o n e=>(hs'.2 b n).trans e) (lM5 hs'.1.symm) it.notPrv
   have S:Lh s.heap ρ h' ρ:=ho.stb (σ:=σ) λq m=>by rw[lq0 m];exact .inl (.inl it)
   apply yo;intro _ k0
   obtain⟨n',ht'⟩:=S.tup t vs n ht;obtain⟨o',ho',hc',hd'⟩:=id hit';apply k0
   exact h2 d rest rfl v h' s.toks ho (Cr.mono S _ _ rv) ⟨⟨it.1,it.2.1,o',_,_,ho',hc',by decide,hd'⟩,n',ht',Ay.mono S _ _ r,i+1,hit',hr⟩
 go A s ρ σ tgt v rest Q E _ I0 tt h:=by
  apply yo;intro _ k0
  obtain⟨it,n,ht,r,i,⟨o,ho,hc,hd⟩,e3⟩:=id tt;apply k0
  exact H3 ho hc hd (by decide) (h s.heap K8 tt)
theorem zEX:Jl G I (zL1 G I t vs ds):=λA s ρ σ rem Q E hh tt h=>by
 apply yo;intro _ k0
 obtain⟨it,n,ht,r,i,e2,e3⟩:=tt;apply k0
 refine(Walks.tuple (prog:=G.prog) (w:=G.w) (A:=A) hh I t (λz=>?_) vs).self i s Q E ⟨e2,let⟨nn,e⟩:=ht;⟨_,e,rfl,nn,rfl⟩⟩ h
 obtain⟨_,_,o,T,vs',ho,hc,hT,hd⟩:=it;obtain⟨nn,ho'⟩:=ht;rw[z,ho]at ho';cases ho';cases hd
noncomputable def S8 (x:Str):List D:=x.cps.toList.map λc=>D.str ⟨#[c]⟩
noncomputable def Ew (x:Str):String:=if x.cps.all (· <128)then "str_ascii_iterator" else "str_iterator"
noncomputable def zJx (G:Gd)(I:Addr)(x:Str)(tk:Tok):List D->Heap->List Addr->C3->Prop:=λrem h ρ σ=>
 Rq G h ρ I/\∃i,h.IsStrIter I (Ew x) x tk i/\rem=(S8 x).drop i
theorem Nc(x:Str):Ew x≠"tuple"∧Nj (Ew x)=true:=by unfold Ew;split<;>decide
theorem zDr(hh:A.handled=none)(hit:s.heap.IsStrIter I (Ew x) x tk i)(h1:x.cps[i]? =none->∀h',Heap.ExtBut I s.heap h'->Q none {s with heap:=h'})(h2:∀c,x.cps[i]? =some c->∀h',h'.IsStrIter I (Ew x) x tk (i+1)->Heap.SameBut I s.heap h'->Q (some (.str ⟨#[c]⟩ s.toks)) {s with heap:=h',toks:=s.toks+1}):wpAny G.M A (pyNext (.ref I)) Q E s:=by
 by_cases ha:x.cps.all (· <128)=true
 ·have hT:Ew x="str_ascii_iterator":=by simp only[Ew,ha,lO4]
  rw[hT]at hit h2
  cases e:x.cps[i]? with
  |none=>exact wpAny_pyNext_ascii_end hh hit e (h1 e)
  |some c=>exact wpAny_pyNext_ascii_item hit e (h2 c e)
 ·have hT:Ew x="str_iterator":=by simp only[Ew,ha,lO3];rfl
  rw[hT]at hit h2
  cases e:x.cps[i]? with
  |none=>exact wpAny_pyNext_wide_end hh hit e (h1 e)
  |some c=>exact wpAny_pyNext_wide_item hit e (h2 c e)
theorem zFw{I:Addr}{x:Str}{tk:Tok}:zFq G I [I] (λ_=>True) (λ_=>True) (zJx G I x tk) (λ_=>zJx G I x tk) where
 own rem h ρ σ t q m:=by rw[lq0 m];exact .inl (.inl t.1)
 ownM v rem h ρ σ t q m:=by rw[lq0 m];exact .inl (.inl t.1)
 keep P rem s ρ σ s' ρ' σ' tt I0 I' x N g:=by
  apply yo;intro _ k0
  obtain⟨it,i,⟨o,ho,hc,hd⟩,e3⟩:=tt;obtain⟨it',z⟩:=it.keep x N;apply k0
  exact⟨it',i,⟨o,z.trans ho,hc,hd⟩,e3⟩
 next A s ρ σ rem Q E hh I0 tt h1 h2:=by
  apply yo;intro _ k0
  obtain⟨it,i,e2,e3⟩:=tt;apply k0
  refine Eg (zDr hh e2 (λhi h' x z=>?_) (λc hc h' hit' hs' z=>?_))
  ·cases rem with
   |nil=>exact h1 rfl h' s.toks (Ks (λb o n e=>x b o n e) z it.notPrv)
   |cons d rest=>
    apply yo;intro _ k0
    obtain⟨hd,hr⟩:=Gi e3;apply k0
    simp[S8]at hd
    apply yo;intro _ k0
    obtain⟨c,hc,_⟩:=hd;apply k0
    simp at hi
    have:=(Array.getElem?_eq_some_iff.mp hc).1
    exact False.elim (An [_,_] [Ac x0 x1,Ae x1 x0] rT hi this)
  ·cases rem with
   |nil=>
    have:=Jc e3
    have h3:=(Array.getElem?_eq_some_iff.mp hc).1;simp[S8]at this
    exact False.elim (An [_,_] [Ae x0 x1,Ac x1 x0] rT h3 this)
   |cons d rest=>
    obtain⟨hd,hr⟩:=Gi e3;simp[S8]at hd
    obtain⟨c',hc',rfl⟩:=hd;rw[hc]at hc';cases hc';have ho:It [I] s.heap h':=Ks (λb o n e=>(hs'.2 b n).trans e) (lM5 hs'.1.symm) it.notPrv
    apply yo;intro _ k0
    obtain⟨o',ho',hc',hd'⟩:=id hit';apply k0
    exact h2 _ rest rfl _ h' (s.toks+1) ho (by exact⟨_,rfl⟩) ⟨⟨it.1,it.2.1,o',_,_,ho',hc',(Nc _).1,hd'⟩,i+1,hit',hr⟩
 go A s ρ σ tgt v rest Q E _ I0 tt h:=by
  apply yo;intro _ k0
  obtain⟨it,i,⟨o,ho,hc,hd⟩,e3⟩:=id tt;apply k0
  exact H3 ho hc hd (Nc _).2 (h s.heap K8 tt)
theorem zDc:Jl G I (zJx G I x tk):=λA s ρ σ rem Q E hh tt h=>by
 obtain⟨it,i,e2,e3⟩:=tt;unfold Ew at e2;split at e2
 ·exact(Walks.strAscii (prog:=G.prog) (w:=G.w) (A:=A) hh I x tk).self i s Q E e2 h
 ·exact(Walks.strWide (prog:=G.prog) (w:=G.w) (A:=A) hh I x tk).self i s Q E e2 h
noncomputable def Ez (a step:Int)(n:Nat):List D:=(List.range n).map λ(j:Nat)=>D.int (a+j*step)
theorem zAt{a step:Int}:Ez a step 0=[]:=rfl
theorem zAz{a step:Int}{n:Nat}:Ez a step (n+1)=.int a::Ez (a+step) step n:=by
 simp only[Ez,List.range_succ_eq_map,lL4,lM3];refine congr (lO2 List.cons ?_) ?_
 ·simp
 ·refine lE3 λj _=>?_
  simp only[Function.comp];congr 1
  have:((j.succ:Nat):Int)=(j:Int)+1:=by exact Kl (λZ=>Az [_] [Ae (.a x0 (.n 1)) (.a x0 (.n 1))] rT Z) (λZ=>Az [_] [Ae (.a x0 (.n 1)) (.a x0 (.n 1))] rT Z)
  rw[this,Int.add_mul];exact Kl (λZ=>Az [_,_,_] [Ae (.a x0 (.a x1 (.m 1 x2))) (.a (.a x0 x2) x1)] rT Z) (λZ=>Az [_,_,_] [Ae (.a (.a x0 x2) x1) (.a x0 (.a x1 (.m 1 x2)))] rT Z)
noncomputable def zL9 (G:Gd)(I:Addr)(step:Int):List D->Heap->List Addr->C3->Prop:=λrem h ρ σ=>Rq G h ρ I/\∃(x:Int) (n:Nat),IsRangeIter h I x n step/\rem=Ez x step n
theorem zHo{I:Addr}{step:Int}:zFq G I [I] (λ_=>True) (λ_=>True) (zL9 G I step) (λ_=>zL9 G I step) where
 own rem h ρ σ t q m:=by rw[lq0 m];exact .inl (.inl t.1)
 ownM v rem h ρ σ t q m:=by rw[lq0 m];exact .inl (.inl t.1)
 keep P rem s ρ σ s' ρ' σ' tt I0 I' x N g:=by
  obtain⟨it,y,n,hr,e3⟩:=tt;obtain⟨it',z⟩:=it.keep x N;exact⟨it',y,n,z.trans hr,e3⟩
 next A s ρ σ rem Q E hh I0 tt h1 h2:=by
  apply yo;intro _ k0
  obtain⟨it,y,n,hr,e3⟩:=tt;apply k0
  cases n with
  |zero=>
   rw[zAt]at e3;subst e3;refine Eg (wpAny_pyNext_range_end hh hr (by simp) λh' x z=>?_)
   exact h1 rfl h' s.toks (Ks (λb o n e=>x b o n e) z it.notPrv)
  |succ n=>
   rw[zAz]at e3;subst e3;refine wpAny_pyNext_range_item hr (by exact zLj λZ=>Az [(↑n)] [Ac (.a x0 (.n 1)) (.n 0),Ac (.n 0) x0] rT Z (cast_nn _)) λh' hit' hs'=>?_
   have ho:It [I] s.heap h':=Ks (λb o n e=>(hs'.2 b n).trans e) (lM5 hs'.1.symm) it.notPrv
   refine h2 _ _ rfl _ h' (s.toks+1) ho (by exact⟨_,rfl⟩) ⟨⟨it.1,it.2.1,_,_,_,hit',rfl,by decide,rfl⟩,y+step,n,?_,rfl⟩
   have:(((n+1:Nat):Int) - 1)=(n:Int):=by exact Kl (λZ=>Az [_] [Ae (.s (.a x0 (.n 1)) (.n 1)) x0] rT Z) (λZ=>Az [_] [Ae x0 (.s (.a x0 (.n 1)) (.n 1))] rT Z)
   rw[this]at hit';exact hit'
 go A s ρ σ tgt v rest Q E _ I0 tt h:=by
  apply yo;intro _ k0
  obtain⟨it,y,n,hr,e3⟩:=id tt;apply k0
  exact H3 hr rfl rfl (by decide) (h s.heap K8 tt)
theorem zFa{I:Addr}{step:Int}:Jl G I (zL9 G I step):=λA s ρ σ rem Q E hh tt h=>by
 apply yo;intro _ k0
 obtain⟨it,y,n,hr,e3⟩:=tt;apply k0
 refine(Walks.range (prog:=G.prog) (w:=G.w) (A:=A) hh I y step n).self 0 s Q E ?_ h
 simpa using hr
noncomputable def Bq:D->Mn Js
 |.ref k=>λst=>Wq st.sto[k]? λds=>.ok ⟨ds,λσ=>σ[k]? =some (.list ds)⟩ st
 |.tup ds=>A8 ⟨ds,λ_=>True⟩
 |.str x=>A8 ⟨S8 x,λ_=>True⟩
 |_=>botM
noncomputable def Mj {G:Gd}{C:Cx}(F:Fr G C)(s:Shared)(ρ:List Addr)(st:St)(tg:Expr->Prop)(v:Value)(m:Mn Js):Prop:=
 ∀src st' (Q:Value->Shared->Prop) (E:Value->Shared->Prop),m st=.ok src st'->Ye G C F s ρ tg src st' Q->wpAny G.M F.A (pyIter v) Q E s
theorem Mj.ret(h:∀Q E,Ye G C F s ρ tg src st Q->wpAny G.M F.A (pyIter v) Q E s):Mj F s ρ st tg v (A8 src):=λsrc' st' Q E hm kk=>by
 cases hm;exact h Q E kk
theorem Mj.bot:Mj F s ρ st tg v botM:=λ_ _ _ _ h=>Bv h
theorem Ll(K:Ok F s ρ st)(kk:Ye G C F s ρ tg src st Q)(hT:T≠"tuple")(X:zFq G s.heap.objs.size [s.heap.objs.size] tg src.g TT Md)(Xs:Jl G s.heap.objs.size TT)(t:∀h',h'=s.heap.push {cls:=.type T,data:=.fields vs}→Ci s.heap h'→Rq G h' ρ s.heap.objs.size→h'.get? s.heap.objs.size=some {cls:=.type T,data:=.fields vs}→TT src.ds h' ρ st.sto)(tk:Nat):
  Q (.ref s.heap.objs.size) {s with heap:=s.heap.push {cls:=.type T,data:=.fields vs},toks:=tk}:=
 kk _ ρ _ _ TT Md (K.grow (Ci.push _ _) Bj tk) ((Ci.push _ _).ev Bj) X Xs (t _ rfl (Ci.push _ _) (zGm K.inv hT 0) (lE1 _ rfl)) λq m=>by rw[lq0 m];exact lN4 _
theorem zLY(K:Ok F s ρ st)(r:Cr G s.heap ρ d v):Mj F s ρ st (λ_=>True) v (Bq d):=by
 cases d with
 |ref k=>
  obtain⟨a,rfl,e1⟩:=r;intro src st' Q E hm kk;have hm:Wq st.sto[k]? (λds=>Re.ok (⟨ds,λσ=>σ[k]? =some (.list ds)⟩:Js) st)=.ok src st':=hm
  refine Qa hm λds e hm=>?_
  cases hm;obtain⟨vs,hl,rr⟩:=K.inv.sto k a (.list ds) e1 e;exact wpAny_pyIter_list hl.list (Ll K kk (by decide) zDt zCH (λh' _ g it e'=>⟨it,e,a,0,e1,⟨_,e',rfl,rfl⟩,rfl⟩) _)
 |tup ds=>
  obtain⟨a,vs,rfl,n,ht,rr⟩:=r;have htt:s.heap.IsTuple a vs:=by obtain⟨n,e⟩:=ht;exact⟨_,e,rfl,n,rfl⟩
  exact Mj.ret λQ E kk=>wpAny_pyIter_tuple htt (Ll K kk (by decide) (zHV (vs:=vs) (t:=a)) zEX (λh' _ g it e'=>⟨it,(g.stb.tup a vs n ht).1,(g.stb.tup a vs n ht).2,Ay.mono g.stb _ _ rr,0,⟨_,e',rfl,rfl⟩,rfl⟩) _)
 |str x=>
  obtain⟨t,rfl⟩:=r;refine Mj.ret λQ E kk=>?_
  have fin:∀T,Ew x=T->Q (.ref s.heap.objs.size) {s with heap:=s.heap.push {cls:=.type T,data:=.fields #[.str x t,.int 0 0]}}:=by
   rintro T rfl
   exact Ll K kk (Nc x).1 (zFw (x:=x) (tk:=t)) zDc (λh' _ g it e'=>⟨it,0,⟨_,e',rfl,rfl⟩,rfl⟩) _
  cases ha:x.cps.all (· <128)with
  |true=>exact wpAny_pyIter_ascii ha (fin _ (by simp[Ew,ha]))
  |false=>exact wpAny_pyIter_wide ha (fin _ (by simp[Ew,ha]))
 |_=>exact Mj.bot
theorem zNA(h:SE G C e m)(hf:∀(F:Fr G C) s ρ st d v,Ok F s ρ st->Cr G s.heap ρ d v->Mj F s ρ st tg v (f d)):SI G C e tg (Af m f):=.mk <| λF s ρ st src st' Q E E' K hm kk=>Bk hm λa st1 e1 e2=>
 h.run F s ρ st K a st1 _ _ e1 λv s1 ρ1 K1 x1 r1=>hf F s1 ρ1 st1 a v K1 r1 src st' Q E e2 λs2 ρ2 I S T Md K2 x2 X Xs t hS=>kk s2 ρ2 I S T Md K2 (x1.trans x2) X Xs t λq m=>lM7 x1.size (hS q m)
theorem zJs(h:SE G C e m):SI G C e (λ_=>True) (Af m Bq):=zNA h λF s ρ st d v K r=>zLY K r
end
noncomputable def De (env:Env):List (Str×NameKind)->List (Str×Addr)->List (Str×Addr)
 |[],acc=>acc
 |(x,k)::r,acc=>if k== .free then(match env.cells.lookup x with
   |some c=>De env r ((x,c)::acc)
   |none=>De env r acc)else De env r acc
theorem Zl(hk:(k==NameKind.free)=true)(hc:env.cells.lookup x=some c):De env ((x,k)::r) acc=De env r ((x,c)::acc):=by
 show(if(k==NameKind.free)=true then(match env.cells.lookup x with|some c=>De env r ((x,c)::acc)|none=>De env r acc)else De env r acc)=_
 rw[lO6 hk,hc]
theorem Sq(h:(k==NameKind.free)=true->env.cells.lookup x=none):De env ((x,k)::r) acc=De env r acc:=by
 show(if(k==NameKind.free)=true then(match env.cells.lookup x with|some c=>De env r ((x,c)::acc)|none=>De env r acc)else De env r acc)=_
 by_cases hk:(k==NameKind.free)=true
 ·rw[lO6 hk,h hk]
 ·rw[lO5 hk]
theorem Wn{P:Prop}(w1:∀c,env.cells.lookup x=some c->De env ((x,k)::r) acc=De env r ((x,c)::acc)->P)(w2:(k=.free->env.cells.lookup x=none)->De env ((x,k)::r) acc=De env r acc->P):P:=by
 by_cases hk:(k==NameKind.free)=true
 ·cases hc:env.cells.lookup x with
  |none=>exact w2 (λ_=>hc) (Sq λ_=>hc)
  |some c=>exact w1 c hc (Zl hk hc)
 ·exact w2 (λz=>absurd (by rw[z];rfl) hk) (Sq λz=>absurd z hk)
theorem Kt(env:Env)(f:Str×NameKind->List (Str×Addr)->Sem (ForInStep (List (Str×Addr))))
  (hf:∀x k cs,f (x,k) cs=if k== .free then(do let a ←cellOf env x;pure (.yield ((x,a)::cs)))else pure (.yield cs)):∀(names:List (Str×NameKind)) (acc:List (Str×Addr)),(∀x,(x,NameKind.free)∈names->(env.cells.lookup x).isSome=true)->
  (forIn names acc f:Sem (List (Str×Addr)))=pure (De env names acc)
 |[],acc,_=>rfl
 |(x,k)::r,acc,h=>by
  simp only[lJ3,hf];have ih:=λacc=>Kt env f hf r acc λy m=>h y (lq4 _ m)
  cases hk:k==NameKind.free with
  |true=>
   have hk':k=.free:=lN8.mp hk
   obtain⟨c,hc⟩:=lB1.mp (h x (by rw[hk'];exact lq1))
   rw[Zl hk hc];simp only[lO4,hc,cellOf,hk];exact ih ((x,c)::acc)
  |false=>
   rw[Sq λz=>by rw[hk]at z;cases z]
   simp only[hk,lE6,lO3];exact ih acc
theorem Qp(h:∀x,(x,NameKind.free)∈scope.names->(env.cells.lookup x).isSome=true):closureFor scope env=pure (De env scope.names []):=by
 dsimp only[closureFor]
 rw[Kt env _ (λx k cs=>by cases hk:k==NameKind.free<;>simp[hk]) scope.names [] h]
 rfl
theorem Mw(env:Env):∀(names:List (Str×NameKind)) (acc:List (Str×Addr)),(∀p,p∈acc->env.cells.lookup p.1=some p.2)->∀p,p∈De env names acc->env.cells.lookup p.1=some p.2
 |[],acc,h,p,m=>h p m
 |(x,k)::r,acc,h,p,m=>Wn (λc hc e=>Mw env r _ (λq mq=>by
   rcases lL5.mp mq with rfl|mq
   ·exact hc
   ·exact h q mq) p (e▸m)) λ_ e=>Mw env r acc h p (e▸m)
theorem Na(env:Env):∀(names:List (Str×NameKind)) (acc:List (Str×Addr)) (x:Str) (c:Addr),env.cells.lookup x=some c->((x,NameKind.free)∈names∨(x,c)∈acc)->(x,c)∈De env names acc
 |[],acc,x,c,_,h=>h.elim (λz=>nomatch z) id
 |(y,k)::r,acc,x,c,e,h=>Wn (x:=y) (k:=k) (r:=r) (acc:=acc) (env:=env) (λc' hc' e1=>by
   rw[e1];refine Na env r _ x c e ?_
   rcases h with h|h
   ·rcases lL5.mp h with z|z
    ·cases z;rw[e]at hc';cases hc';exact .inr lq1
    ·exact .inl z
   ·exact .inr (lq4 _ h)) λhn e1=>by
   rw[e1];refine Na env r _ x c e ?_
   rcases h with h|h
   ·rcases lL5.mp h with z|z
    ·cases z;rw[hn rfl]at e;cases e
    ·exact .inl z
   ·exact .inr h
theorem Fq{α:Type}:∀(l:List (Str×α)) (x:Str) (c:α),(x,c)∈l->(l.lookup x).isSome=true
 |[],_,_,h=>nomatch h
 |p::r,x,c,h=>by
  simp only[List.lookup];split
  ·rfl
  ·rcases lL5.mp h with e|m
   ·rename_i q;rw[←e]at q;simp at q
   ·exact Fq r x c m
theorem G7(h:(De env names []).lookup x=some c):env.cells.lookup x=some c:=
 Mw env names [] (λ_ m=>nomatch m) (x,c) (mem_of_lookup h)
theorem zB7(hm:(x,NameKind.free)∈names)(h:env.cells.lookup x=some c):(De env names []).lookup x=some c:=by
 obtain⟨c',e⟩:=lB1.mp (Fq _ _ _ (Na env names [] x c h (.inl hm)))
 have:=G7 e
 rw[h]at this;cases this;exact e
theorem Jm{α β:Type}(f:Str×α->Str×β)(hf:∀p,(f p).1=p.1):∀(l:List (Str×α)) (x:Str),(l.map f).lookup x=(l.lookup x).map λk=>(f (x,k)).2
 |[],_=>rfl
 |(y,k)::r,x=>by
  have hk:=hf (y,k);rw[lL4];rw[show f (y,k)=((f (y,k)).1,(f (y,k)).2)from rfl,hk]
  simp only[List.lookup]
  cases e:x==y with
  |true=>simp only;rw[lN8.mp e];rfl
  |false=>simp only;exact Jm f hf r x
theorem Pd(x:Str):(relabel scope env).names.lookup x=(scope.names.lookup x).map λk=>if(k==NameKind.free&&env.scope.kind== .function&&env.kindOf x==some .cell)then NameKind.cell else k:=by
 show(scope.names.map _).lookup x=_
 rw[Jm _ (λp=>by dsimp only;split<;>rfl)]
 cases scope.names.lookup x with
 |none=>rfl
 |some k=>simp only[lK1];congr 1;split<;>rfl
open Classical in
noncomputable def Dm (tgt:D->Bm->Option Bm)(g:C3->Prop)(test:Mn Bool)(elt:Mn D):List D->List D->Mn (List D)
 |[],acc=>λst=>if g st.sto then .ok acc st else .bot
 |d::rest,acc=>λst=>if g st.sto then
   match tgt d st.loc with
   |none=>.bot
   |some loc'=>Af test (λb=>bif b then Af elt λx=>Dm tgt g test elt rest (acc++[x])else Dm tgt g test elt rest acc) ⟨loc',st.sto⟩
  else .bot
section
variable {tgt:D->Bm->Option Bm}{g:C3->Prop}{test:Mn Bool}{elt:Mn D}{d:D}{rest acc:List D}{st:St}
open Classical in
theorem Mc:Dm tgt g test elt [] acc st=if g st.sto then .ok acc st else .bot:=rfl
open Classical in
theorem Lo:Dm tgt g test elt (d::rest) acc st=if g st.sto then
   match tgt d st.loc with
   |none=>.bot
   |some loc'=>Af test (λb=>bif b then Af elt λx=>Dm tgt g test elt rest (acc++[x])else Dm tgt g test elt rest acc) ⟨loc',st.sto⟩
  else .bot:=rfl
theorem Ih(h:Dm tgt g test elt ds acc st=.ok xs st'):g st.sto:=by
 by_cases hg:g st.sto
 ·exact hg
 ·cases ds with
  |nil=>rw[Mc,lO5 hg]at h;cases h
  |cons d r=>rw[Lo,lO5 hg]at h;cases h
theorem zEx{P:Prop}(h:Dm tgt g test elt (d::rest) acc st=.ok xs st')(k:∀loc' b st1,tgt d st.loc=some loc'->test ⟨loc',st.sto⟩=.ok b st1->(bif b then Af elt λx=>Dm tgt g test elt rest (acc++[x])else Dm tgt g test elt rest acc) st1=.ok xs st'->P):P:=by
 have hg:=Ih h;rw[Lo,lO6 hg]at h
 cases e:tgt d st.loc with
 |none=>rw[e]at h;cases h
 |some loc'=>rw[e]at h;exact Bk h λfl1 st1 e1 e2=>k loc' fl1 st1 e e1 e2
end
structure Ua (G:Gd)(C:Cx)(ifs:List Expr)(m:Mn Bool):Prop where
 run:∀(F:Fr G C) s ρ st,Ok F s ρ st->
 At F [] s ρ st RB (forIn ifs true λc r=>if r=true then do let ok ←isTrue c F.env (eval c F.env);pure (ForInStep.yield ok)else pure (ForInStep.yield r)) m
theorem zIF:Ua G C [] (A8 true):=.mk <| λF s ρ st K=>At.pure K rfl
theorem zGo(h:SB G C c m):Ua G C [c] m:=.mk <| λF s ρ st K d st' Q E hm kk=>wpAny_tests_one (h.run F s ρ st K d st' Q E hm kk)
noncomputable def F6 (is:List Nat)(loc:Bm):Bm:=λi=>if is.contains i then none else loc i
section
variable {G:Gd}{C:Cx}{F:Fr G C}
theorem Te(hl:s.heap.get? q=some (E5 vs n))(hz:vs.size≤sizeLine)(h:Q .none {s with heap:=s.heap.update q (Obj.mapSeq (·.push y))}):wpAny G.M A (call (.builtin "list.append") [.ref q,y]) Q E s:=by
 refine call_meets slot_list_append (Heap.IsList.typeIs ⟨_,hl,rfl,n,rfl⟩) entry_list_append (args_list_append _ _) (S:=λ_ R s=>s.heap.get? q=some (E5 vs n)/\R (.ok (.ret .none)) {s with heap:=s.heap.update q (Obj.mapSeq (·.push y))}) ?_ ⟨hl,h⟩
 refine .of_wp λprog w A R s h=>?_
 show wpAny _ _ (updateSeq q (·.push y) >>= λ_=>ret .none) _ _ s
 exact lN9 (wpAny_updateSeq h.1 rfl (lO1 ⟨.none,rfl,h.2⟩) (hz:=hz) (by rw[Array.size_push];exact lI6 hz))
theorem zF2{h:Heap}{q:Addr}{vs:Array Value}{n:Nat}{y:Value}(hl:h.get? q=some (E5 vs n)):(h.update q (Obj.mapSeq (·.push y))).get? q=some (E5 (vs.push y) (n+1)):=by
 rw[Heap.get?_update_self _ hl rfl];simp[Obj.mapSeq]
theorem zDD(hqC:q∉P)(xx:Ev P h ρ₁ h' ρ₂)(nq:q∉ρ₁)(hl:Jq h q vs):q∉ρ₂/\Jq h' q vs:=by
 obtain⟨n,e⟩:=hl;obtain⟨o',e',sm⟩:=xx.keep q _ e nq hqC;rw[sm.eq (λ_ _ z=>by cases z)]at e'
 exact⟨xx.notin e nq,n,e'⟩
theorem zH3{I:Addr}{S:List Addr}{tg:Expr->Prop}{g:C3->Prop}{T:List D->Heap->List Addr->C3->Prop}{Md:Value->List D->Heap->List Addr->C3->Prop}(X:zFq G I S tg g T Md)
  {elt target iter:Expr}{ifs:List Expr}{scope:Scope}{pos:Pos}{tf:D->Bm->Option Bm}{mt:Mn Bool}{me:Mn D}{q:Addr}
  (ht:tg target) (hT:ST G C false target tf) (hTs:Ua G C ifs mt) (hE:SE G C elt me){hs:Heap}{ρs P:List Addr}(hP:∀p,p∈F.P->p∈P) (hb0:G.h0.get? q=none) (hq:hs.objs.size<=q) (hS:∀q',q'∈S->hs.objs.size<=q'∨q'∈ρs∨q'∈P) (hqS:q∉S) (hqC:q∉F.P)
  {R:Result->Shared->Prop}{xs:List D}{st':St}(kk:∀f s' ρ' vs,Ok F s' ρ' st'->Ev P hs ρs s'.heap ρ'->q∉ρ'->Jq s'.heap q vs->Ay G s'.heap ρ' xs vs.toList->R (.ok f) s'):
  ∀(ds acc:List D) (s:Shared) (ρ:List Addr) (st:St) (vs:Array Value),Ok F s ρ st->T ds s.heap ρ st.sto->Ev P hs ρs s.heap ρ->q∉ρ->Jq s.heap q vs->Ay G s.heap ρ acc vs.toList->acc.length+ds.length<=sizeLine->
   Dm tf g mt me ds acc st=.ok xs st'->
   codeAny G.M F.A (.compLoop (.ListComp elt [⟨target,iter,ifs,0⟩] scope pos) 0 (.ref I) (.ref q) F.env) R s:=by
 intro ds
 induction ds with
 |nil=>
  intro acc s ρ st vs K hTT x hqr hl r hz hm;have hg:=Ih hm;rw[Mc,lO6 hg]at hm
  cases hm;refine lK6 ?_
  show wpAny _ F.A ((compTurn (.ListComp elt [⟨target,iter,ifs,0⟩] scope pos) 0 (.ref I) (.ref q) F.env).onRaise (λx=>do noteFrame x F.env;theTreesLotGoes x)) _ _ s
  refine wpAny_noted ?_
  rw[compTurn_list];refine lN9 (lL9 (lN9 (X.next F.A s ρ _ [] _ _ K.room.hd K.inv hTT (λ_ h' tk ho=>?_) (λd rest e=>by cases e))))
  obtain⟨n,hl⟩:=hl;exact lO1 (kk _ _ ρ vs (K.only ho (X.own _ _ _ _ hTT) tk) (x.only ho hS) hqr ⟨n,ho.1 q _ hqS hl⟩ (Ay.mono (ho.stb (X.own _ _ _ _ hTT)) _ _ r))
 |cons d rest ih=>
  intro acc s ρ st vs K hTT x hqr hl r hz hm;have hg:=Ih hm;refine zEx hm λloc' b st1 e1 e2 e3=>?_
  refine lK6 ?_
  show wpAny _ F.A ((compTurn (.ListComp elt [⟨target,iter,ifs,0⟩] scope pos) 0 (.ref I) (.ref q) F.env).onRaise (λx=>do noteFrame x F.env;theTreesLotGoes x)) _ _ s
  refine wpAny_noted ?_
  rw[compTurn_list];refine lN9 (lL9 (lN9 (X.next F.A s ρ st.sto (d::rest) _ _ K.room.hd K.inv hTT (λe=>by cases e) (λd' rest' e v h' tk ho rv hM=>?_))))
  cases e;have K₁:=K.only ho (X.own _ _ _ _ hTT) tk;refine lN9 (X.go F.A _ ρ st.sto target v rest _ _ ht K₁.inv hM λh₂ ho₂ hT₂=>?_)
  have K₂:=K₁.only ho₂ (X.ownM _ _ _ _ _ hM) tk;have S₂:=ho₂.stb (X.ownM _ _ _ _ _ hM);have hl₂:Jq h₂ q vs:=by obtain⟨n,e⟩:=hl;exact⟨n,ho₂.1 q _ hqS (ho.1 q _ hqS e)⟩
  refine lN9 (hT.run F {s with heap:=h₂,toks:=tk} ρ st d v loc' _ _ K₂ (λz=>by cases z) (Cr.mono S₂ d v rv) e1 λs₃ K₃ x₃=>?_)
  obtain⟨hqr₃,hl₃⟩:=zDD hqC x₃ hqr hl₂;have T₃:T rest s₃.heap ρ st.sto:=X.keep _ rest {s with heap:=h₂,toks:=tk} ρ st.sto s₃ ρ st.sto hT₂ K₂.inv K₃.inv x₃ K₂.frm.nt hg
  refine lN9 (hTs.run F s₃ ρ _ K₃ b st1 _ _ e2 λok s₄ ρ₄ K₄ x₄ rb=>?_)
  cases(show b=ok from rb)
  obtain⟨hqr₄,hl₄⟩:=zDD (lI3) x₄ hqr₃ hl₃;have r₄:Ay G s₄.heap ρ₄ acc vs.toList:=Ay.mono (x₄.stb K₃.inv .nil) _ _ (Ay.mono (x₃.stb K₂.inv K₂.frm.nt.t) _ _ (Ay.mono S₂ _ _ (Ay.mono (ho.stb (X.own _ _ _ _ hTT)) _ _ r)))
  have xx₄:Ev P hs ρs s₄.heap ρ₄:=(((x.only ho hS).only ho₂ hS).trans (x₃.more hP)).trans x₄.nil
  cases b with
  |false=>exact lO1 (And.intro rfl (ih acc s₄ ρ₄ st1 vs K₄ (X.keep [] rest s₃ ρ st.sto s₄ ρ₄ st1.sto T₃ K₃.inv K₄.inv x₄ .nil (Ih e3)) xx₄ hqr₄ hl₄ r₄ (lM7 (lE4 (lN5 _) _) hz) e3))
  |true=>
   refine Bk e3 λdy st2 e4 e5=>?_
   refine lN9 (lN9 (hE.run F s₄ ρ₄ _ K₄ dy st2 _ _ e4 λy s₅ ρ₅ K₅ x₅ ry=>?_))
   obtain⟨hqr₅,hl₅⟩:=zDD (lI3) x₅ hqr₄ hl₄;obtain⟨n₅,hl₅'⟩:=id hl₅;refine lN9 (Te hl₅' (lM7 (lM5 (by have:=r.all2.length;simpa using this)) (lM7 (lI4 _ _) hz)) ?_)
   have hsame:Heap.SameBut q s₅.heap (s₅.heap.update q (Obj.mapSeq (·.push y))):=Heap.SameBut.update ..
   have ho6:It [q] s₅.heap (s₅.heap.update q (Obj.mapSeq (·.push y))):=Ks (λb o n e=>(hsame.2 b n).trans e) (lM5 hsame.1.symm) (λ⟨u,v,z⟩=>by rw[hl₅']at z;exact Go (lK2 z).symm)
   have own6:∀q',q'∈[q]->X3 G s₅.heap ρ₅ st2.sto q':=λq' m=>by rw[lq0 m];exact .inl (.inr ⟨hb0,hqr₅,vs,hl₅⟩)
   have S₆:=ho6.stb own6;refine lO1 (lO1 (And.intro rfl (ih (acc++[dy]) _ ρ₅ st2 (vs.push y) (K₅.only ho6 own6 s₅.toks) (X.keep [q] rest s₅ ρ₅ st2.sto _ ρ₅ st2.sto (X.keep [] rest s₃ ρ st.sto s₅ ρ₅ st2.sto T₃ K₃.inv K₅.inv (x₄.trans x₅) .nil (Ih e5)) K₅.inv (K₅.only ho6 own6 s₅.toks).inv ⟨λ_ _ e=>e,λb o e _ n=>⟨o,ho6.1 b o n e,.refl o⟩,λ_ m=>.inl m,ho6.2.1⟩
    (λp m=>by rw[lq0 m];exact⟨_,hl₅',.inr (.inr ⟨_,_,rfl⟩)⟩) (Ih e5)) ((xx₄.trans x₅.nil).only ho6 (λq' m=>.inl (by rw[lq0 m];exact hq))) hqr₅ ⟨_,zF2 hl₅'⟩ ?_ (by rw[lq7];exact lM7 (lM5 (Nat.add_right_comm acc.length 1 rest.length)) hz) e5)))
   simp only[lG0];exact Ay.of_all2 ((Ay.mono S₆ _ _ (Ay.mono (x₅.stb K₄.inv .nil) _ _ r₄)).all2.append (.cons (Cr.mono S₆ _ _ ry) .nil))
end
open Classical in
noncomputable def C7 (cls:List Nat)(tf:D->Bm->Option Bm)(mt:Mn Bool)(me:Mn D)(src:Js):Mn D:=λst=>
 if src.ds.length<=sizeLine then
  match Dm tf src.g mt me src.ds [] ⟨F6 cls st.loc,st.sto⟩with
  |.ok xs st'=>.ok (.ref st'.sto.length) ⟨st.loc,st'.sto++[.list xs]⟩
  |.bot=>.bot
 else .bot
theorem zFe{cls:List Nat}{tf:D->Bm->Option Bm}{mt:Mn Bool}{me:Mn D}{src:Js}{st st':St}{d:D}{P:D->St->Prop}(h:C7 cls tf mt me src st=.ok d st')
  (k:∀xs st1,src.ds.length<=sizeLine->Dm tf src.g mt me src.ds [] ⟨F6 cls st.loc,st.sto⟩=.ok xs st1->P (.ref st1.sto.length) ⟨st.loc,st1.sto++[.list xs]⟩):P d st':=by
 unfold C7 at h;by_cases hl:src.ds.length<=sizeLine
 ·rw[lO6 hl]at h
  cases e:Dm tf src.g mt me src.ds [] ⟨F6 cls st.loc,st.sto⟩with
  |ok xs st1=>rw[e]at h;cases h;exact k xs st1 hl e
  |bot=>rw[e]at h;cases h
 ·rw[lO5 hl]at h;cases h
structure Q9 (C:Cx)(scope:Scope)(cls:List Nat):Prop where
 kind:scope.kind=.function
 nocell:∀x,x∈scope.names->x.2≠.cell
 nl:∀x,x∈scope.names->x.2=.local->scope.names.lookup x.1=some .local
 free:∀x,x∈scope.names->x.2=.free->(C.names.lookup x.1=some .cell∨C.names.lookup x.1=some .free)/\x.1∈C.tbl
 cls:∀(i:Nat) x,C.tbl[i]? =some x->scope.names.lookup x=some .local->cls.contains i=true
section
variable {G:Gd}{C:Cx}{F:Fr G C}{s:Shared}{ρ:List Addr}{st:St}
noncomputable def zJT (F:Fr G C)(s:Shared)(ρ:List Addr)(use:Option (Value->Sem Unit))(Q:Value->Shared->Prop)(E:Value->Shared->Prop)(d:D)(st':St):Prop:=
 ∀(s':Shared) (ρ':List Addr) (v:Value) (C0:Addr),Ok F s' ρ' st'->Ev [] s.heap ρ s'.heap ρ'->Cr G s'.heap ρ' d v->s.heap.objs.size<=C0->C0∉ρ'->(∃m,s'.heap.Ns C0 m)->
   match use with
   |none=>∀h',Heap.SameBut C0 s'.heap h'->Q v {s' with heap:=h'}
   |some u=>wpAny G.M F.A (u v) (λ_ s''=>∃m,s''.heap.Ns C0 m/\∀h',Heap.SameBut C0 s''.heap h'->Q .none {s'' with heap:=h'}) E s'
theorem R8{elt target iter:Expr}{ifs:List Expr}{scope:Scope}{pos cpos:Pos}{cls:List Nat}{tg:Expr->Prop}{mi:Mn Js}{tf:D->Bm->Option Bm}{mt:Mn Bool}{me:Mn D}
  (hS:Q9 C scope cls) (hI:SI G C iter tg mi) (ht:tg target) (hT:ST G ⟨scope.names,C.tbl,C.lvl,C.code,C.qual⟩ false target tf) (hTs:Ua G ⟨scope.names,C.tbl,C.lvl,C.code,C.qual⟩ ifs mt) (hE:SE G ⟨scope.names,C.tbl,C.lvl,C.code,C.qual⟩ elt me)
  (hs:∀env x,foldedSetIterable iter env x=pure x) (K:Ok F s ρ st){d:D}{st':St}(hm:Af mi (C7 cls tf mt me) st=.ok d st'){use:Option (Value->Sem Unit)}{Q:Value->Shared->Prop}{E:Value->Shared->Prop}
  (hQ:zJT F s ρ use Q E d st'):
  wpAny G.M F.A (comprehension (.ListComp elt [⟨target,iter,ifs,0⟩] scope pos) scope F.env cpos (newList []) false (eval iter F.env) use) Q E s:=by
 have hclos:closureFor scope F.env=pure (De F.env scope.names []):=Qp λx m=>by
  apply yo;intro _ k0
  obtain⟨hk,mt⟩:=hS.free (x,.free) m rfl
  obtain⟨i,hi,e⟩:=lE2 mt;apply k0
  have hk':F.env.kindOf x=some .cell∨F.env.kindOf x=some .free:=hk.elim (λh=>.inl (K.sees.cell x h)) (K.sees.free x)
  obtain⟨c,hc,_⟩:=K.frm.cell i x (by rw[lA9 hi,e]) hk'
  rw[hc];rfl
 refine wpAny_comprehension_free rfl (hs F.env) hclos hS.kind hS.nl ?_
 refine Bk hm λsrc st2 e hm=>?_
 refine hI.run F s ρ st src st2 _ _ _ K e λs₂ ρ₂ Ia S T Md K₂ x₂ X Xs hT0 hSn=>?_
 obtain⟨loc2,σ₂⟩:=st2;have I₂:=K₂.inv;refine zFe (P:=λd st'=>zJT F s ρ use Q E d st'->_) hm (λxs st3 hlen hm hQ=>?_) hQ
 refine lH4 ?_ (by size_fits)
 refine wpAny_newFunctionEnv hS.nocell (λx m=>nomatch m) (λh₄ hn₄ hs₄=>?_) hS.kind
 generalize hq0:s₂.heap.objs.size=q at*
 have hC0:(s₂.heap.push {cls:=.type "list",data:=.seq #[]}).objs.size=q+1:=by rw[lK7,hq0]
 rw[hC0]at hn₄ hs₄ ⊢;generalize hC1:q+1=C0 at*
 have hqC:q<C0:=hC1▸lI5 q
 have g₄:Ci s₂.heap h₄:=λb o ho=>by
  have hb:b<q:=hq0▸lM0 ho
  exact(hs₄.2 b (lN0 (lM9 hb hqC))).trans (lB6 _ (lB6 _ ho))
 have z₄:s₂.heap.objs.size<=h₄.objs.size:=by rw[hs₄.1,lK7,lK7];exact lI4 _ 2
 have hlq:Jq h₄ q #[]:=by
  refine⟨0,(hs₄.2 q (lN0 hqC)).trans (lB6 _ ?_)⟩
  rw[←hq0];exact lE1 _ rfl
 have I₄:Dg G {s₂ with heap:=h₄} ρ₂ σ₂:=I₂.grow g₄ z₄ s₂.toks
 have x₄:Ev [] s₂.heap ρ₂ h₄ ρ₂:=g₄.ev z₄
 have lt₂:∀{a:Addr},a∈ρ₂->a<q:=λm=>hq0▸I₂.mem_lt m
 have hC0n:C0∉ρ₂:=λm=>Nat.lt_asymm (lt₂ m) hqC
 have hqn:q∉ρ₂:=λm=>lL7 _ (lt₂ m)
 generalize hE0:newEnv scope C0 F.env.globals (De F.env scope.names []) F.env.qual none .none (some F.env) builtinsNs=ce
 have hcl0:ce.locals=C0:=by rw[←hE0];rfl
 generalize hcenv:({ce with scope:=relabel scope F.env}:Env)=cenv
 have eloc:cenv.locals=C0:=by rw[←hcenv];exact hcl0
 have ekind:∀x,cenv.kindOf x=(scope.names.lookup x).map λk=>if(k==NameKind.free&&F.env.scope.kind== .function&&F.env.kindOf x==some .cell)then NameKind.cell else k:=λx=>by
  rw[←hcenv];exact Pd x
 have ecells:cenv.cells=De F.env scope.names []:=by rw[←hcenv,←hE0];rfl
 have ecode:cenv.code=F.env.code:=by rw[←hcenv,←hE0];rfl
 have equal:cenv.qual=F.env.qual:=by rw[←hcenv,←hE0];rfl
 have kfree:∀x,cenv.kindOf x=some .cell∨cenv.kindOf x=some .free->scope.names.lookup x=some .free:=λx h=>by
  rw[ekind]at h
  cases q:scope.names.lookup x with
  |none=>rw[q]at h;rcases h with h|h<;>cases h
  |some k=>
   rw[q]at h
   cases k with
   |free=>rfl
   |cell=>exact absurd rfl (hS.nocell _ (mem_of_lookup q))
   |_=>rcases h with h|h<;>cases h
 have kloc:∀x,cenv.kindOf x=some .local->scope.names.lookup x=some .local:=λx h=>by
  rw[ekind]at h
  cases q:scope.names.lookup x with
  |none=>rw[q]at h;cases h
  |some k=>
   rw[q]at h;simp only[lK1]at h;split at h
   ·cases h
   ·exact h
 have K₄:Ok (G:=G) (C:=⟨scope.names,C.tbl,C.lvl,C.code,C.qual⟩) ⟨F.A,[cenv.locals],cenv⟩ {s₂ with heap:=h₄} ρ₂ ⟨F6 cls loc2,σ₂⟩:={
  room:=⟨K.room.hd,K.room.depth,K.room.units⟩
  sees:={
   loc:=λx h=>by rw[ekind,h];rfl
   cell:=λx h=>absurd rfl (hS.nocell _ (mem_of_lookup h))
   free:=λx h=>by
    rw[ekind,h];simp only[lK1];split
    ·exact .inl rfl
    ·exact .inr rfl
   glob:=λx h=>by rw[ekind,h];rfl}
  inv:=I₄
  frm:={
   kind:=by rw[←hcenv];exact hS.kind
   glob:=by rw[←hcenv,←hE0];exact K.frm.glob
   bi:=by rw[←hcenv,←hE0];exact K.frm.bi
   ns:=⟨_,by rw[eloc];exact hn₄,λi x e k d hd=>by
    have:=hS.cls i x e (kloc x k)
    simp only[F6,this,lO4]at hd;cases hd⟩
   cell:=λi x e k=>by
    have kf:=kfree x k;have ko:=(hS.free (x,.free) (mem_of_lookup kf) rfl).1;have hk':F.env.kindOf x=some .cell∨F.env.kindOf x=some .free:=ko.elim (λh=>.inl (K.sees.cell x h)) (K.sees.free x)
    apply yo;intro _ k0
    obtain⟨c,hc,ov,n,qq⟩:=(K₂.frm.keep K₂.inv x₄).cell i x e hk';apply k0
    refine⟨c,by rw[ecells];exact zB7 (mem_of_lookup kf) hc,ov,n,λd hd=>qq d ?_⟩
    simp only[F6]at hd;split at hd
    ·cases hd
    ·exact hd
   cok:=λx c e=>by rw[ecells]at e;exact(K₂.frm.keep K₂.inv x₄).cok x c (G7 e)
   cinj:=λx y c e1 e2=>by rw[ecells]at e1 e2;exact K.frm.cinj x y c (G7 e1) (G7 e2)
   lrho:=by rw[eloc];exact hC0n
   lP:=lF1.mpr rfl
   own:=λp m=>⟨by rw[lq0 m,eloc];exact I₂.h0_le (by rw[hq0];exact lM6 hqC),.inl (lq0 m)⟩
   tnd:=K.frm.tnd}
  code:=K.code.imp id ecode.trans
  qual:=K.qual.imp id equal.trans}
 have T₄:T src.ds h₄ ρ₂ σ₂:=X.keep [] src.ds s₂ ρ₂ σ₂ {s₂ with heap:=h₄} ρ₂ σ₂ hT0 I₂ I₄ x₄ .nil (Ih hm)
 have hsq:s.heap.objs.size<=q:=hq0▸x₂.size
 have hqS:q∉S:=λm=>by
  rcases X.own _ _ _ _ hT0 q m with(⟨_,_,o,_,_,ho,_⟩|⟨_,_,vs,n,ho⟩)|⟨k,ek,_⟩
  ·exact absurd (lM0 ho) (by rw[hq0];exact lL7 _)
  ·exact absurd (lM0 ho) (by rw[hq0];exact lL7 _)
  ·exact hqn (lD5 ek)
 have hC0s:s.heap.objs.size<=C0:=lM7 hsq (lM6 hqC)
 have loop:codeAny G.M F.A (.compLoop (.ListComp elt [⟨target,iter,ifs,0⟩] scope pos) 0 (.ref Ia) (.ref q) cenv) (compPost G.M F.A E use Q (.ref q) ce.locals) {s₂ with heap:=h₄}:=by
  refine zH3 (F:=⟨F.A,[cenv.locals],cenv⟩) X ht hT hTs hE (hs:=s₂.heap) (ρs:=ρ₂) (P:=cenv.locals::S) (λp m=>by rw[lq0 m];exact lq1) (K.inv.h0_le hsq) (lM5 hq0) (λq' m=>.inr (.inr (lq4 _ m))) hqS (λm=>lN0 hqC ((lq0 m).trans eloc)) (λf s' ρ' vs K' x' hq' hl' r'=>?_) src.ds [] _ ρ₂ ⟨F6 cls loc2,σ₂⟩ #[] K₄ T₄ x₄.nil hqn hlq (show Ay _ _ _ _ _ from rfl) (by simpa using hlen) hm
  rw[hcl0];obtain⟨n',hl''⟩:=id hl';obtain⟨mm,nm,_⟩:=K'.frm.ns;have nm:s'.heap.Ns C0 mm:=eloc▸nm
  have ad:=K'.inv.adopt (q:=q) (p:=.list xs) (K.inv.h0_le hsq) hq' (λo ho=>by rw[hl'']at ho;cases ho;simp)
   (λS=>⟨vs,hl',Ay.mono S _ _ r'⟩) s'.toks
  have xS:Ev S s₂.heap ρ₂ s'.heap (ρ'++[q]):=Eo (x'.less λp m=>(lL5.mp m).elim (λz=>.inr (by rw[z,eloc,hq0];exact lM6 hqC)) .inl) (lM5 hq0)
  have oS:=X.own _ _ _ _ hT0;have K5:Ok F s' (ρ'++[q]) ⟨loc2,st3.sto++[.list xs]⟩:=⟨K₂.room,K₂.sees,ad.1,K₂.frm.keepP K₂.inv xS (λp m hn vs n ho=>(oS p m).not_tup hn ho) (λm=>by
   obtain⟨_,⟨o,es,ep,ho,hd,_⟩,_⟩:=K₂.frm.ns;exact((oS _ m).ne_dict K₂.frm.lrho ho).1 _ _ hd) (λy c e m=>by
   obtain⟨n,ov,o,ho,hd⟩:=K₂.frm.cok y c e;exact((oS _ m).ne_dict n ho).2 _ hd),K₂.code,K₂.qual⟩
  have hn0:C0∉ρ'++[q]:=λm=>by
   rcases lJ6.mp m with m|m
   ·exact(eloc▸K'.frm.lrho) m
   ·exact Nat.ne_of_gt hqC (lq0 m)
  have fin:=hQ s' (ρ'++[q]) (.ref q) C0 K5 ((x₂.nil.trans xS).less λp m=>.inr (hSn p m)) ⟨q,rfl,by rw[←K'.inv.len];simp⟩ hC0s hn0 ⟨mm,nm⟩
  cases use with
  |none=>exact⟨mm,nm,fin⟩
  |some u=>exact fin
 exact codeAny_compStart_list loop (Xs F.A {s₂ with heap:=h₄} ρ₂ σ₂ src.ds _ _ K.room.hd T₄ loop)
theorem zJP(nm:h.Ns C0 m):NT h [C0]:=λp mp=>by
 obtain⟨oC,es,ep,hoC,hdC,_⟩:=nm;rw[lq0 mp];exact⟨oC,hoC,.inl ⟨es,ep,hdC⟩⟩
theorem Zp(K:Ok F s ρ st)(hC0:s.heap.objs.size<=C0):F.env.locals≠C0/\∀y c,F.env.cells.lookup y=some c->c≠C0:=by
 refine⟨λz=>?_,λy c e z=>?_⟩
 ·obtain⟨_,n,_⟩:=K.frm.ns;exact absurd n.lt (by rw[z];exact lN7.mpr hC0)
 ·obtain⟨_,ov,o,ho,_⟩:=K.frm.cok y c e;exact absurd (lM0 ho) (by rw[z];exact lN7.mpr hC0)
theorem Ok.letgo(K:Ok F s ρ st)(nm:s.heap.Ns C0 m)(hn:C0∉ρ)(h0:G.h0.get? C0=none)(ho:F.env.locals≠C0/\∀y c,F.env.cells.lookup y=some c->c≠C0)(hs:Heap.SameBut C0 s.heap h'):Ok F {s with heap:=h'} ρ st/\Ev [C0] s.heap ρ h' ρ:=by
 obtain⟨oC,es,ep,hoC,hdC,_⟩:=id nm;obtain⟨I',x',S'⟩:=Ym (P:=[C0]) K.inv hs (lF1.mpr rfl) h0 hn ⟨oC,hoC,.inl ⟨es,ep,hdC⟩⟩ s.toks
 exact⟨⟨K.room,K.sees,I',K.frm.keepP K.inv x' (zJP nm).t (λm=>ho.1 (lq0 m)) λy c e m=>ho.2 y c e (lq0 m),K.code,K.qual⟩,x'⟩
theorem zAV{elt target iter:Expr}{ifs:List Expr}{scope:Scope}{pos:Pos}{cls:List Nat}{tg:Expr->Prop}{mi:Mn Js}{tf:D->Bm->Option Bm}{mt:Mn Bool}{me:Mn D}
  (hS:Q9 C scope cls) (hI:SI G C iter tg mi) (ht:tg target) (hT:ST G ⟨scope.names,C.tbl,C.lvl,C.code,C.qual⟩ false target tf) (hTs:Ua G ⟨scope.names,C.tbl,C.lvl,C.code,C.qual⟩ ifs mt) (hE:SE G ⟨scope.names,C.tbl,C.lvl,C.code,C.qual⟩ elt me)
  (hs:∀env x,foldedSetIterable iter env x=pure x):SE G C (.ListComp elt [⟨target,iter,ifs,0⟩] scope pos) (Af mi (C7 cls tf mt me)):=.mk <| λF s ρ st K d st' Q E hm kk=>by
 refine R8 hS hI ht hT hTs hE hs K hm λs' ρ' v C0 K' x r hC0 hn ⟨m,nm⟩=>?_
 intro h' hsb;have:=K'.letgo nm hn (K.inv.h0_le hC0) (Zp K hC0) hsb
 exact kk v _ ρ' this.1 ((x.nil.trans this.2).less λp m=>.inr (by rw[lq0 m];exact hC0)) (Cr.mono (this.2.stb K'.inv (zJP nm).t) _ _ r)
theorem Ou{i:Nat}{x:Str}{np:Pos}{elt target iter:Expr}{ifs:List Expr}{scope:Scope}{cpos pos:Pos}{cls:List Nat}{tg:Expr->Prop}{mi:Mn Js}{tf:D->Bm->Option Bm}{mt:Mn Bool}{me:Mn D}
  (hi:C.tbl[i]? =some x) (hx:C.names.lookup x=some .local)
  (hS:Q9 C scope cls) (hI:SI G C iter tg mi) (ht:tg target) (hT:ST G ⟨scope.names,C.tbl,C.lvl,C.code,C.qual⟩ false target tf) (hTs:Ua G ⟨scope.names,C.tbl,C.lvl,C.code,C.qual⟩ ifs mt) (hE:SE G ⟨scope.names,C.tbl,C.lvl,C.code,C.qual⟩ elt me)
  (hs:∀env x,foldedSetIterable iter env x=pure x)
  (hsw:∀env:Env,env.kindOf x=some .local->env.blockKind=.function->swapsWith (.ListComp elt [⟨target,iter,ifs,0⟩] scope cpos) (some (.Name x np)) pos.line env=pure true):
  SS G C (.Assign [.Name x np] (.ListComp elt [⟨target,iter,ifs,0⟩] scope cpos) pos) (Af (Af mi (C7 cls tf mt me)) (Ah i)):=.mk <| λF s ρ st K W d st' Q E hm0 kk=>Bk hm0 λdl st1 hm e2=>by
 cases e2;have hbk:F.env.blockKind=.function:=by unfold Env.blockKind;rw[K.frm.kind];rfl
 simp only[exec_Assign_Name_used (env:=F.env) x np _ pos (hsw F.env (K.sees.loc x hx) hbk)]
 refine lN9 (lL9 (lN9 (lN9 ?_)))
 refine R8 hS hI ht hT hTs hE hs K hm λs' ρ' v C0 K' x' r hC0 hn ⟨m,nm⟩=>?_
 have no:=Zp K hC0;have hCP:C0∉F.P:=λm=>by
  rcases(K.frm.own C0 m).2 with z|⟨y,z⟩
  ·exact no.1 z.symm
  ·exact no.2 y C0 z rfl
 refine wpAny_assign_Name (Pt K' hi hx r λs'' K'' x''=>⟨m,Sz x'' nm hn hCP,λh' hsb=>?_⟩)
 have:=K''.letgo (Sz x'' nm hn hCP) hn (K.inv.h0_le hC0) no hsb
 refine lO1 (lO1 (kk _ _ ρ' this.1 (((x'.nil.trans (x''.more λp m=>lq4 C0 m)).trans (this.2.more λp m=>by rw[lq0 m];exact lq1)).less λp m=>?_) rfl))
 rcases lL5.mp m with rfl|m
 ·exact .inr hC0
 ·exact .inl m
end
noncomputable def B5:D->Mn Bool
 |.bool b=>A8 b
 |.int i=>A8 (i !=0)
 |.none=>A8 false
 |.str x=>if x.length<=sizeLine then A8 (x.length !=0)else botM
 |_=>botM
theorem C8{α:Type}{c:Prop}[Decidable c]{f g:Mn α}{st:St}(h:c):(if c then f else g) st=f st:=by rw[lO6 h]
noncomputable def Hp (m:Mn Bool):Mn Bool:=Af m λb=>A8 (!b)
noncomputable def Oa (m n:Mn Bool):Mn Bool:=Af m λb=>if b then n else A8 false
noncomputable def Ms (m n:Mn Bool):Mn Bool:=Af m λb=>if b then A8 true else n
noncomputable def L8 (m n:Mn D):Mn D:=Af m λd=>Af (B5 d) λb=>if b then n else A8 d
noncomputable def zOk (m n:Mn D):Mn D:=Af m λd=>Af (B5 d) λb=>if b then A8 d else n
noncomputable def zGK (m:Mn D):Mn D:=Af m λd=>Af (B5 d) λb=>A8 (.bool (!b))
section
variable {G:Gd}{C:Cx}{F:Fr G C}{A:Around}{s:Shared}{ρ:List Addr}{st:St}
theorem At.same{α β:Type}{P:List Addr}{R:Heap->List Addr->β->α->Prop}{t:Sem α}{d:β}(K:Ok F s ρ st)(h:∀Q E,(∀v,R s.heap ρ d v->Q v s)->wpAny G.M F.A t Q E s):At F P s ρ st R t (A8 d):=At.ret λQ E kk=>h Q E λv r=>kk v s ρ K Ev.refl r
theorem At.tok{α β:Type}{P:List Addr}{R:Heap->List Addr->β->α->Prop}{t:Sem α}{d:β}(K:Ok F s ρ st)(h:∀Q E,(∀v tk,R s.heap ρ d v->Q v {s with toks:=tk})->wpAny G.M F.A t Q E s):At F P s ρ st R t (A8 d):=At.ret λQ E kk=>h Q E λv tk r=>kk v _ ρ (K.tok tk) Ev.refl r
theorem Fc{P:List Addr}{d:D}{v:Value}(K:Ok F s ρ st)(r:Cr G s.heap ρ d v):At F P s ρ st RB (truthy v) (B5 d):=by
 cases d with
 |bool b=>cases r;exact At.same K λQ E kk=>wpAny_truthy_bool (kk _ rfl)
 |int i=>obtain⟨t,rfl⟩:=r;exact At.same K λQ E kk=>PySem.P.truthy_int (kk _ rfl)
 |none=>cases r;exact At.same K λQ E kk=>truthy_none (kk _ rfl)
 |str x=>
  obtain⟨t,rfl⟩:=r;refine At.ite λhz=>At.tok K λQ E kk=>PySem.P.truthy_str (by rw[sizeLine_eq]at hz;exactλZ=>Az [_] [Ac (.n 9223372036854775808) x0,Ac x0 (.n 16777216)] rT Z (Cc hz)) (kk _ _ ?_)
  show(x.length !=0)=((x.length:Int) !=0)
  cases h:x.length with
  |zero=>rfl
  |succ n=>simp[bne];exactλZ=>Az [_] [eq1 (.a x0 (.n 1)) (.n 0),Ac (.n 0) x0] rT Z (cast_nn _)
 |_=>exact At.bot
theorem zDT(h:SE G C e m)(he:∀env whole,isTrue e env whole=(do let v ←whole;standAt e.pos;holding [v] (truthy v))):SB G C e (Af m B5):=.mk <| λF s ρ st K=>by
 rw[he];exact At.bind (h.run F s ρ st K) λv s' ρ' d st' K' x r=>At.stand (At.hold (Fc K' r))
theorem zLW(h:SB G C e m):SB G C (.UnaryOp .Not e pos) (Hp m):=.mk <| λF s ρ st K=>At.map (h.run F s ρ st K) λ_ _ d v r=>by cases r;rfl
structure zJH (G:Gd)(C:Cx)(op:BoolOp)(es:List Expr)(m:Mn Bool):Prop where
 run:∀(F:Fr G C) s ρ st,Ok F s ρ st->At F [] s ρ st RB (allTrue op es F.env) m
theorem zMv(h:SB G C e m):zJH G C op [e] m:=.mk <| λF s ρ st K d st' Q E hm kk=>by
 cases op<;>exact lN9 (h.run F s ρ st K d st' _ _ hm λb s' ρ' K' x r=>by cases b<;>exact lO1 (kk _ s' ρ' K' x r))
theorem zHu(h:SB G C e m)(h2:zJH G C .And es n):zJH G C .And (e::es) (Oa m n):=.mk <| λF s ρ st K=>by
 refine At.bind (h.run F s ρ st K) λv s' ρ' d st' K' x r=>?_
 cases(show d=v from r)
 cases v with
 |false=>exact At.pure K' rfl
 |true=>exact h2.run F s' ρ' _ K'
theorem zLM(h:SB G C e m)(h2:zJH G C .Or es n):zJH G C .Or (e::es) (Ms m n):=.mk <| λF s ρ st K=>by
 refine At.bind (h.run F s ρ st K) λv s' ρ' d st' K' x r=>?_
 cases(show d=v from r)
 cases v with
 |false=>exact h2.run F s' ρ' _ K'
 |true=>exact At.pure K' rfl
theorem zIB(h:zJH G C op es m):SB G C (.BoolOp op es pos) m:=.mk <| λF s ρ st K=>h.run F s ρ st K
structure zJJ (G:Gd)(C:Cx)(op:BoolOp)(es:List Expr)(m:Mn D):Prop where
 run:∀(F:Fr G C) s ρ st pos,Ok F s ρ st->At F [] s ρ st (RV G) (boolOp pos op (evalEach es F.env)) m
theorem zGf(h:SE G C e m):zJJ G C op [e] m:=.mk <| λF s ρ st pos K=>h.run F s ρ st K
theorem zGc(h:SE G C e m)(h2:zJJ G C .And (e'::es) n):zJJ G C .And (e::e'::es) (L8 m n):=.mk <| λF s ρ st pos K=>by
 refine At.bind (h.run F s ρ st K) λv s' ρ' d st' K' x r=>?_
 refine At.stand (At.bind (At.hold (Fc K' r)) λt s'' ρ'' b st'' K'' x2 rb=>?_)
 cases(show b=t from rb)
 cases t with
 |false=>exact At.pure K'' (Cr.mono (x2.stb K'.inv .nil) _ _ r)
 |true=>exact h2.run F s'' ρ'' _ pos K''
theorem zJn(h:SE G C e m)(h2:zJJ G C .Or (e'::es) n):zJJ G C .Or (e::e'::es) (zOk m n):=.mk <| λF s ρ st pos K=>by
 refine At.bind (h.run F s ρ st K) λv s' ρ' d st' K' x r=>?_
 refine At.stand (At.bind (At.hold (Fc K' r)) λt s'' ρ'' b st'' K'' x2 rb=>?_)
 cases(show b=t from rb)
 cases t with
 |false=>exact h2.run F s'' ρ'' _ pos K''
 |true=>exact At.pure K'' (Cr.mono (x2.stb K'.inv .nil) _ _ r)
theorem zBJ(h:zJJ G C op es m):SE G C (.BoolOp op es pos) m:=.mk <| λF s ρ st K=>h.run F s ρ st pos K
theorem zKd(h:SE G C e m):SE G C (.UnaryOp .Not e pos) (zGK m):=.mk <| λF s ρ st K=>by
 refine At.bind (h.run F s ρ st K) λv s' ρ' d st' K' x r=>?_
 refine At.stand (At.hold (λdb st2 Q E hm kk=>Bk hm λb st1 e1 e2=>?_))
 cases e2;refine not_of (Fc (P:=[]) K' r b _ _ _ e1 λc s'' ρ'' K'' x'' rb=>?_)
 cases(show b=c from rb)
 exact kk _ s'' ρ'' K'' x'' rfl
theorem Z4{α β:Type}{P:List Addr}{R:Heap->List Addr->β->α->Prop}{t:Sem α}{m:Mn β}{vs ks:List Value}(h:At F P s ρ st R t m):At F P s ρ st R (release vs ks >>= λ_=>t) m:=λd st' Q E hm kk=>lN9 (wpAny_release' (h d st' Q E hm kk))
noncomputable def Ed (G:Gd)(op:CmpOp)(f:D->D->Mn D):Prop:=
 ∀C (F:Fr G C) s ρ st d1 d2 v1 v2,Ok F s ρ st->Cr G s.heap ρ d1 v1->Cr G s.heap ρ d2 v2->At F [] s ρ st (RV G) (compareOp op v1 v2) (f d1 d2)
theorem zLd(ho:Ed G op f)(h1:SE G C l m1)(h2:SE G C r m2)(hm:behindInMarks op r=false):
  SE G C (.Compare l [op] [r] pos) (Af m1 λa=>Af m2 λb=>f a b):=.mk <| λF s ρ st K=>by
 show At F [] s ρ st (RV G) (eval l F.env >>= λa=>holding [a] (markedBehindIn op r (eval r F.env)) >>= λb=>standAt pos >>= λ_=>operate [a,b] (compareOp op a b)) _
 rw[markedBehindIn_of_false hm];refine At.bind (h1.run F s ρ st K) λv s' ρ' d st' K' x r1=>?_
 refine At.bind (h2.run F s' ρ' _ K').hold λv2 s'' ρ'' d2 st'' K'' x2 r2=>?_
 exact At.stand (At.operate (ho C F s'' ρ'' _ d d2 v v2 K'' (Cr.mono (x2.stb K'.inv .nil) _ _ r1) r2))
theorem zK0(ho:Ed G op f)(h1:SE G C l m1)(h2:SE G C r m2)(hm:behindInMarks op r=false):
  SB G C (.Compare l [op] [r] pos) (Af m1 λa=>Af m2 λb=>Af (f a b) B5):=.mk <| λF s ρ st K=>by
 show At F [] s ρ st RB (eval l F.env >>= λa=>holding [a] (markedBehindIn op r (eval r F.env)) >>= λb=>standAt pos >>= λ_=>operate [a,b] (compareOp op a b) >>= λc=>holding [c] (truthy c)) _
 rw[markedBehindIn_of_false hm];refine At.bind (h1.run F s ρ st K) λv s' ρ' d st' K' x r1=>?_
 refine At.bind (h2.run F s' ρ' _ K').hold λv2 s'' ρ'' d2 st'' K'' x2 r2=>?_
 exact At.stand (At.bind (At.operate (ho C F s'' ρ'' _ d d2 v v2 K'' (Cr.mono (x2.stb K'.inv .nil) _ _ r1) r2)) λc s₃ ρ₃ dc st₃ K₃ x3 rc=>At.hold (Fc K₃ rc))
theorem zI3{l r q:Expr}{op op':CmpOp}{pos:Pos}{m1 m2 m3:Mn D}{f g:D->D->Mn D}(ho:Ed G op f)(ho':Ed G op' g)(h1:SE G C l m1)(h2:SE G C r m2)(h3:SE G C q m3)(hm:lastMarks [op,op'] [r,q]=false):
  SB G C (.Compare l [op,op'] [r,q] pos) (Af m1 λa=>Af m2 λb=>Af (f a b) λc=>Af (B5 c) λt=>if t then(Af m3 λc=>Af (g b c) B5)else A8 false):=.mk <| λF s ρ st K=>by
 show At F [] s ρ st RB (eval l F.env >>= λa=>testChain pos a [op,op'] (markedEach [op,op'] [r,q] [eval r F.env,eval q F.env])) _
 simp only[markedEach_of_false _ _ _ hm];refine At.bind (h1.run F s ρ st K) λv s' ρ' d st' K' x r1=>?_
 refine At.bind (h2.run F s' ρ' _ K').hold λv2 s'' ρ'' d2 st'' K'' x2 r2=>?_
 refine At.stand (At.bind (At.hold (ho C F s'' ρ'' _ d d2 v v2 K'' (Cr.mono (x2.stb K'.inv .nil) _ _ r1) r2)) λc s₃ ρ₃ dc st₃ K₃ x3 rc=>?_)
 refine Z4 (At.bind (At.hold (Fc K₃ rc)) λt s₄ ρ₄ b st₄ K₄ x4 rb=>?_)
 cases(show b=t from rb)
 cases t with
 |false=>exact At.pure K₄ rfl
 |true=>
  refine At.bind (h3.run F s₄ ρ₄ _ K₄).hold λv3 s₅ ρ₅ d3 st₅ K₅ x5 r3=>?_
  exact At.stand (At.bind (At.operate (ho' C F s₅ ρ₅ _ d2 d3 v2 v3 K₅ (Cr.mono (((x3.trans x4).trans x5).stb K''.inv .nil) _ _ r2) r3)) λc s₆ ρ₆ dc st₆ K₆ x6 rc=>At.hold (Fc K₆ rc))
noncomputable def zIe:D->D->Mn D:=op2 (λa b=>A8 (.int (a+b))) λx y=>if x.length+y.length<=sizeLine then A8 (.str (x++y))else botM
noncomputable def E1:D->D->Mn D:=op2 (λa b=>if b≠0 then A8 (.int (a.fmod b))else botM) zLe
noncomputable def He (a:Int):Bool:=decide (-(2 ^ 63)<a)&&decide (a<2 ^ 63)
noncomputable def zJV:D->D->Mn D:=op2 (λa b=>if He a||He b then A8 (.int (a*b))else botM) zLe
noncomputable def zH8:D->Mn D
 |.int a=>A8 (.int (-a))
 |_=>botM
theorem Mk(h:He a=true):Builtin.Int.intBits a<=64:=by
 simp only[He,lH6,lH2]at h;exact intBits_le_64 (by exact H6 (Ae (.s (.n 0) (.n 18446744073709551616)) x0) [Ae (.s (.n 0) (.n 9223372036854775808)) x0] rT h.1) (Int.lt_of_lt_of_le h.2 (by decide))
theorem zHx:Hc G .Sub H2:=λC F s ρ st d1 d2 v1 v2 K r1 r2=>At.op2 r1 r2 (λa b t u=>At.tok K λQ E kk=>PySem.P.sub_int (kk _ _ ⟨_,rfl⟩)) λ_ _ _ _=>At.bot
theorem zHn:Hc G .FloorDiv Hq:=λC F s ρ st d1 d2 v1 v2 K r1 r2=>At.op2 r1 r2 (λa b t u=>At.ite λh=>At.tok K λQ E kk=>floordiv_int h.1 (kk _ _ ⟨_,rfl⟩) (.inl (PyProof.noPylong_small h.2))) λ_ _ _ _=>At.bot
theorem zGC:Hc G .Mod E1:=λC F s ρ st d1 d2 v1 v2 K r1 r2=>At.op2 r1 r2 (λa b t u=>At.ite λh=>At.tok K λQ E kk=>mod_int' h (kk _ _ ⟨_,rfl⟩)) λ_ _ _ _=>At.bot
theorem zEN:Hc G .Mult zJV:=λC F s ρ st d1 d2 v1 v2 K r1 r2=>At.op2 r1 r2 (λa b t u=>At.ite λh=>At.tok K λQ E kk=>PySem.P.mul_int (kk _ _ ⟨_,rfl⟩) ((Bool.or_eq_true_iff.mp h).elim (λh=>IntMulOk.of_left (Mk h)) λh=>IntMulOk.of_right (Mk h))) λ_ _ _ _=>At.bot
theorem N6{x y:Str}(h:(x.length==0)=true):x++y=y:=by
 have:x=Str.empty:=by
  obtain⟨c⟩:=x;have:c.size=0:=by simpa [Str.length]using h
  simp[Str.empty,Array.eq_empty_of_size_eq_zero this]
 rw[this];exact Str.empty_append y
theorem Nb{x y:Str}(h:(y.length==0)=true):x++y=x:=by
 obtain⟨c⟩:=y;have hc:c.size=0:=by simpa [Str.length]using h
 obtain⟨b⟩:=x;show Str.mk (b++c)=_
 rw[Array.eq_empty_of_size_eq_zero hc];simp
theorem zBE{x y:Str}{t u:Tok}(K:Ok F s ρ st):At F [] s ρ st (RV G) (binaryOp .Add (.str x t) (.str y u)) (if x.length+y.length<=sizeLine then A8 (.str (x++y))else botM):=At.ite λhz=>At.tok K λQ E kk=>by
 refine PySem.P.add_str ?_
 split
 ·rename_i h;rw[N6 h]at kk;exact kk _ _ ⟨_,rfl⟩
 ·split
  ·rename_i h;rw[Nb h]at kk;exact kk _ _ ⟨_,rfl⟩
  ·exact⟨by rw[Str.length_append];exact hz,kk _ _ ⟨_,rfl⟩⟩
theorem zF1:Hc G .Add zIe:=λC F s ρ st d1 d2 v1 v2 K r1 r2=>At.op2 r1 r2 (λa b t u=>At.tok K λQ E kk=>PySem.P.add_int (kk _ _ ⟨_,rfl⟩)) λ_ _ _ _=>zBE K
theorem zJk{e:Expr}{pos:Pos}{m:Mn D}(h:SE G C e m):SE G C (.UnaryOp .USub e pos) (Af m zH8):=.mk <| λF s ρ st K=>by
 refine At.bind (h.run F s ρ st K) λv s' ρ' d st' K' x r=>At.stand (At.hold ?_)
 cases d with
 |int i=>obtain⟨t,rfl⟩:=r;exact At.tok K' λQ E kk=>PySem.P.neg_int (kk _ _ ⟨_,rfl⟩)
 |_=>exact At.bot
noncomputable def Qk:D->D->Mn D:=op2 (λa b=>A8 (.bool (decide (a<b)))) λx y=>A8 (.bool (decide (x.cps.toList<y.cps.toList)))
noncomputable def zCn:D->D->Mn D:=op2 (λa b=>A8 (.bool (decide (a>b)))) λx y=>A8 (.bool (decide (y.cps.toList<x.cps.toList)))
noncomputable def zLl:D->D->Mn D:=op2 (λa b=>A8 (.bool (decide (a<=b)))) zLe
noncomputable def F2:D->D->Mn D:=op2 (λa b=>A8 (.bool (a==b))) λx y=>A8 (.bool (x.cps.toList==y.cps.toList))
noncomputable def zMF:D->D->Mn D:=op2 (λa b=>A8 (.bool (a !=b))) λx y=>A8 (.bool (x.cps.toList !=y.cps.toList))
theorem zJv(h:Q (.bool (decide (y.cps.toList<x.cps.toList))) s):wpAny G.M A (compareOp .Gt (.str x t) (.str y u)) Q E s:=
 compareOp_gives (op:=.Gt) (typeIs_str s x t) (typeIs_str s y u) F.slot_str_gt F.entry_str_gt (F.args_str_gt_2 _ _) (gives_str_gt x y t u) (λe=>nomatch e) h
theorem zJu:Ed G .Lt Qk:=λC F s ρ st d1 d2 v1 v2 K r1 r2=>At.op2 r1 r2 (λa b t u=>At.same K λQ E kk=>PySem.P.lt_int (kk _ rfl)) λa b t u=>At.same K λQ E kk=>PySem.P.lt_str (kk _ rfl)
theorem zLT:Ed G .Gt zCn:=λC F s ρ st d1 d2 v1 v2 K r1 r2=>At.op2 r1 r2 (λa b t u=>At.same K λQ E kk=>PySem.P.gt_int (kk _ rfl)) λa b t u=>At.same K λQ E kk=>zJv (kk _ rfl)
theorem zKs:Ed G .LtE zLl:=λC F s ρ st d1 d2 v1 v2 K r1 r2=>At.op2 r1 r2 (λa b t u=>At.same K λQ E kk=>PySem.P.le_int (kk _ rfl)) λ_ _ _ _=>At.bot
theorem zHh:Ed G .Eq F2:=λC F s ρ st d1 d2 v1 v2 K r1 r2=>At.op2 r1 r2 (λa b t u=>At.same K λQ E kk=>PySem.P.eq_int (kk _ rfl)) λa b t u=>At.same K λQ E kk=>PySem.P.eq_str (kk _ rfl)
theorem zGJ:Ed G .NotEq zMF:=λC F s ρ st d1 d2 v1 v2 K r1 r2=>At.op2 r1 r2 (λa b t u=>At.same K λQ E kk=>PySem.P.ne_int (kk _ rfl)) λa b t u=>At.same K λQ E kk=>PySem.P.ne_str (kk _ rfl)
end
section
variable {G:Gd}{C:Cx}{F:Fr G C}{A:Around}{P:List Addr}{s:Shared}{ρ:List Addr}{st:St}
noncomputable def Gs (i:Int):Bool:=decide (-(2 ^ 63)<=i)&&decide (i<2 ^ 63)
theorem Ea:Gs i=true↔ -(2 ^ 63)<=i/\i<2 ^ 63:=by simp[Gs]
noncomputable def Yv {α:Type}:Option α->Mn α
 |some a=>A8 a
 |none=>botM
noncomputable def Ge {α:Type}(k:Nat)(f:List D->Mn α):Mn α:=λst=>Wq st.sto[k]? λds=>f ds st
theorem At.lst{α β:Type}{R:Heap->List Addr->β->α->Prop}{t:Sem α}{k:Nat}{a:Addr}{f:List D->Mn β}(K:Ok F s ρ st)(e1:ρ[k]? =some a)(h:∀ds vs n,st.sto[k]? =some (.list ds)->s.heap.get? a=some (E5 vs n)->Ay G s.heap ρ ds vs.toList->At F P s ρ st R t (f ds)):At F P s ρ st R t (Ge k f):=
 λd st' Q E hm kk=>Qa (f:=λds=>f ds st) hm λds e hm=>Gb K.inv e1 e λvs n hl r=>h ds vs n e hl r d st' Q E hm kk
theorem At.opt{α β:Type}{R:Heap->List Addr->β->α->Prop}{t:Sem α}{o:Option β}(h:∀a,o=some a->At F P s ρ st R t (A8 a)):At F P s ρ st R t (Yv o):=by
 cases o with
 |none=>exact At.bot
 |some a=>exact h a rfl
noncomputable def Aj:D->D->Mn D
 |.str x,.int i=>if Gs i then Yv (((seqIndex? i x.length).bind (x.cps[·]?)).map λc=>.str ⟨#[c]⟩)else botM
 |.tup ds,.int i=>if Gs i then Yv ((seqIndex? i ds.length).bind (ds[·]?))else botM
 |.ref k,.int i=>Ge k λds=>if Gs i then Yv ((seqIndex? i ds.length).bind (ds[·]?))else botM
 |.scr ns,.int i=>if 0<=i/\i<2 ^ 63 then Yv (ns[i.toNat]?.map D.int)else botM
 |_,_=>botM
theorem Bs.get'{α β:Type}{R:α->β->Prop}{l:List α}{l':List β}(h:Bs R l l'):∀(i:Nat) (a:α),l[i]? =some a->∃b,l'[i]? =some b/\R a b:=by
 induction h with
 |nil=>intro i b e;simp at e
 |cons x _ ih=>
  intro i b e
  cases i with
  |zero=>simp at e;subst e;exact⟨_,by simp,x⟩
  |succ i=>simp at e;obtain⟨a,ha,r⟩:=ih i b e;exact⟨a,by simpa using ha,r⟩
theorem Ay.size{h:Heap}{ds:List D}{vs:Array Value}(r:Ay G h ρ ds vs.toList):vs.size=ds.length:=by have:=r.all2.length;simpa using this
theorem Dc.size{vs:Array Value}{ns:List Int}(r:Dc vs.toList ns):vs.size=ns.length:=by have:=Bs.length r;simpa using this
theorem H0{a:Addr}{vs:Array Value}{n:Nat}(h:s.heap.get? a=some (E5 vs n)):s.heap.IsList a vs:=⟨_,h,rfl,n,rfl⟩
theorem Su{l:Addr}{items:Array Value}{k:Int}{t:Tok}{j:Nat}{x:Value}{Q:Value->Shared->Prop}{E:Value->Shared->Prop}(hl:s.heap.IsList l items)(hi:Gs k=true)(hj:seqIndex? k items.size=some j)(hx:items[j]? =some x)(h:Q x s):
  wpAny G.M A (getItem (.ref l) (.int k t)) Q E s:=by
 have hi':=Ea.mp hi;by_cases h0:0<=k
 ·have:j=k.toNat:=by
   unfold seqIndex? at hj
   simp only[show¬k<0 by exactλZ=>Az [_] [Ae x0 (.n 0),Ac (.n 0) x0] rT Z h0,lO3]at hj
   split at hj
   ·cases hj;rfl
   ·cases hj
  subst this;exact wpAny_getItem_list hl h0 hi'.2 hx h
 ·have h1: -(items.size:Int)<=k:=by
   unfold seqIndex? at hj
   simp only[show k<0 by exact(Int.not_le.mp h0),lO4]at hj
   split at hj
   ·rename_i z;simp only[lH6,lH2]at z;omega
   ·cases hj
  simp only[seqIndex_neg (by exact(Int.not_le.mp h0)) h1]at hj
  cases hj;exact wpAny_getItem_list_neg hl (by exact(Int.not_le.mp h0)) h1 hi'.1 hx h
theorem zJX{d1 d2:D}{o i:Value}{value slice:Expr}(K:Ok F s ρ st)(r1:Cr G s.heap ρ d1 o)(r2:Cr G s.heap ρ d2 i)(hs:∀o i,subscripted slice false o i=operate [o,i] (getItem o i)):
  At F P s ρ st (RV G) (subscriptTail value slice o i) (Aj d1 d2):=by
 cases d2 with
 |int i=>
  obtain⟨u,rfl⟩:=r2
  cases d1 with
  |str x=>
   obtain⟨t,rfl⟩:=r1;refine At.ite λh1=>At.opt λy hy=>At.tok K λQ E kk=>?_
   obtain⟨c,hc,rfl⟩:=lC1.mp hy;have h1':=Ea.mp h1;exact tail_any (typeIs_str s _ t) PySem.F.slot_str_getitem.lookup (PySem.P.getItem_str (by simp;exact⟨h1'.1,h1'.2⟩) hc (kk _ _ ⟨_,rfl⟩)) (hs _ _)
  |tup ds=>
   obtain⟨a,vs,rfl,hna,⟨n,ho⟩,r⟩:=r1;refine At.ite λh1=>At.opt λy hy=>At.same K λQ E kk=>?_
   obtain⟨j,hj,hd⟩:=lB3.mp hy;obtain⟨v,hv,rv⟩:=r.all2.get j y hd;have ht:IsTup s.heap a vs:=⟨_,ho,rfl,n,rfl⟩
   have h1':=Ea.mp h1;exact tail_any ht.typeIs slot_tuple_getitem.lookup (getItem_tuple ht h1'.1 h1'.2 (r.size▸hj) (by simpa using hv) (kk _ rv)) (hs _ _)
  |ref k=>
   obtain⟨a,rfl,e1⟩:=r1;refine At.lst K e1 λds vs n _ hl r=>At.ite λh1=>At.opt λy hy=>At.same K λQ E kk=>?_
   obtain⟨j,hj,hd⟩:=lB3.mp hy;obtain⟨v,hv,rv⟩:=r.all2.get j y hd;exact tail_any (H0 hl).typeIs slot_list_getitem.lookup (Su (H0 hl) h1 (r.size▸hj) (by simpa using hv) (kk _ rv)) (hs _ _)
  |scr ns=>
   obtain⟨a,vs,rfl,hl,hi⟩:=r1;refine At.ite λh1=>At.opt λy hy=>At.same K λQ E kk=>?_
   obtain⟨c,hc,rfl⟩:=lC1.mp hy;obtain⟨v,hv,t,rfl⟩:=hi.get _ _ hc;have hl':=Ci.list K.inv.base hl;exact tail_any hl'.typeIs slot_list_getitem.lookup (wpAny_getItem_list hl' h1.1 h1.2 (by simpa using hv) (kk _ ⟨_,rfl⟩)) (hs _ _)
  |_=>exact At.bot
 |_=>cases d1<;>exact At.bot
theorem zLF(h1:SE G C v m1)(h2:SE G C sl m2)(hs:∀o i,subscripted sl false o i=operate [o,i] (getItem o i)):
  SE G C (.Subscript v sl pos) (Af m1 λa=>Af m2 λb=>Aj a b):=.mk <| λF s ρ st K=>by
 refine At.ofEq (t':=do let o ←eval v F.env;let i ←holding [o] (eval sl F.env);standAt pos;subscriptTail v sl o i) (by rw[eval_Subscript];rfl) ?_
 refine At.bind (h1.run F s ρ st K) λv s' ρ' d st' K' x r1=>?_
 refine At.bind (h2.run F s' ρ' _ K').hold λv2 s'' ρ'' d2 st'' K'' x2 r2=>?_
 exact At.stand (zJX K'' (Cr.mono (x2.stb K'.inv .nil) _ _ r1) r2 hs)
noncomputable def arg1 {α:Type}(f:D->Mn α):List D->Mn α
 |[d]=>f d
 |_=>botM
theorem Ja(r:Ay G h ρ [d] vs):∃v,vs=[v]/\Cr G h ρ d v:=by
 obtain⟨v,_,rfl,r,rfl⟩:=r;exact⟨v,rfl,r⟩
theorem BF.arg1{id:String}{f:D->Mn D}(h:∀C (F:Fr G C) s ρ st d v,Ok F s ρ st->Cr G s.heap ρ d v->At F [] s ρ st (RV G) (call (.builtin id) [v]) (f d)):BF G id (arg1 f):=λC F s ρ st ds vs K r=>by
 cases ds with
 |nil=>exact At.bot
 |cons d ds=>
  cases ds with
  |nil=>obtain⟨v,rfl,r1⟩:=Ja r;exact h C F s ρ st d v K r1
  |cons _ _=>exact At.bot
noncomputable def zGQ:D->Mn D
 |.str x=>if x.length<2 ^ 62 then A8 (.int x.length)else botM
 |.tup ds=>if ds.length<2 ^ 62 then A8 (.int ds.length)else botM
 |.scr ns=>if ns.length<2 ^ 62 then A8 (.int ns.length)else botM
 |.ref k=>Ge k λds=>if ds.length<2 ^ 62 then A8 (.int ds.length)else botM
 |_=>botM
noncomputable def zNf:List D->Mn D:=arg1 zGQ
theorem zAf(K:Ok F s ρ st)(hl:s.heap.IsList l vs)(hn:vs.size=n):At F P s ρ st (RV G) (call (.builtin "len") [.ref l]) (if n<2 ^ 62 then A8 (.int n)else botM):=At.ite λh1=>At.tok K λQ E kk=>
 Calls.call_len_list hl (by exact Vt (Ae x0 (.n 9223372036854775808)) [Ae x1 (.n 4611686018427387904),eq1 x0 x1] rT (F1 h1) (M9 hn)) (kk _ _ ⟨_,by rw[hn]⟩)
theorem zLD:BF G "len" zNf:=BF.arg1 λC F s ρ st d v K r=>by
 cases d with
 |str x=>
  obtain⟨t,rfl⟩:=r;exact At.ite λh1=>At.tok K λQ E kk=>PySem.P.len_str (by exactλZ=>Az [_] [Ac (.n 9223372036854775808) x0,Ae x0 (.n 4611686018427387904)] rT Z (F1 h1)) (kk _ _ ⟨_,rfl⟩)
 |tup ds=>
  obtain⟨a,vs,rfl,hna,⟨n,ho⟩,rr⟩:=r;have hlen:=Ay.size rr;exact At.ite λh1=>At.tok K λQ E kk=>len_tuple ⟨_,ho,rfl,n,rfl⟩ (by exact Vt (Ae x0 (.n 9223372036854775808)) [Ae x1 (.n 4611686018427387904),eq1 x0 x1] rT (F1 h1) (M9 hlen)) (kk _ _ ⟨_,by rw[hlen]⟩)
 |ref k=>
  obtain⟨a,rfl,e1⟩:=r;exact At.lst K e1 λds vs n _ hl r=>zAf K (H0 hl) r.size
 |scr ns=>
  obtain⟨a,vs,rfl,hl,hi⟩:=r;exact zAf K (Ci.list K.inv.base hl) (Dc.size hi)
 |_=>exact At.bot
end
noncomputable def zNv:Option PO->Option String
 |some (.list _)=>some "list"
 |some (.dict _)=>some "dict"
 |_=>none
noncomputable def zLq:D->C3->Option String
 |.none,_=>some "NoneType"
 |.bool _,_=>some "bool"
 |.int _,_=>some "int"
 |.str _,_=>some "str"
 |.tup _,_=>some "tuple"
 |.scr _,_=>some "list"
 |.ref k,σ=>zNv σ[k]?
noncomputable def Ld (T' T:String):Bool:=T'==T||(T'=="bool"&&T=="int")
noncomputable def Hl (T:String)(d:D):Mn D:=λst=>match zLq d st.sto with
 |some T'=>.ok (.bool (Ld T' T)) st
 |none=>.bot
structure zBp (T:String):Prop where
 hty:typeOf (.type T)=pure (.type "type")
 sub:∀T',T'∈["NoneType","bool","int","str","tuple","list","dict"]→isSubtype (.type T') (.type T)=pure (Ld T' T)
theorem Q7(hty:typeOf (.type T)=pure (.type "type"))(h1:isSubtype (.type "NoneType") (.type T)=pure (Ld "NoneType" T))(h2:isSubtype (.type "bool") (.type T)=pure (Ld "bool" T))(h3:isSubtype (.type "int") (.type T)=pure (Ld "int" T))(h4:isSubtype (.type "str") (.type T)=pure (Ld "str" T))(h5:isSubtype (.type "tuple") (.type T)=pure (Ld "tuple" T))(h6:isSubtype (.type "list") (.type T)=pure (Ld "list" T))(h7:isSubtype (.type "dict") (.type T)=pure (Ld "dict" T)):zBp T:=
 ⟨hty,λT' m=>by
  simp only[lL5,lI3,or_false]at m;rcases m with rfl|rfl|rfl|rfl|rfl|rfl|rfl<;>assumption⟩
theorem zH2:zBp "int":=Q7 (by kernel_rfl) (by rw[lL2];kernel_rfl) (by rw[lL2];kernel_rfl) (by rw[lL2];kernel_rfl) (by rw[lL2];kernel_rfl) (by rw[lL2];kernel_rfl) (by rw[lL2];kernel_rfl) (by rw[lL2];kernel_rfl)
theorem zEo:zBp "bool":=Q7 (by kernel_rfl) (by rw[lL2];kernel_rfl) (by rw[lL2];kernel_rfl) (by rw[lL2];kernel_rfl) (by rw[lL2];kernel_rfl) (by rw[lL2];kernel_rfl) (by rw[lL2];kernel_rfl) (by rw[lL2];kernel_rfl)
theorem zHt:zBp "str":=Q7 (by kernel_rfl) (by rw[lL2];kernel_rfl) (by rw[lL2];kernel_rfl) (by rw[lL2];kernel_rfl) (by rw[lL2];kernel_rfl) (by rw[lL2];kernel_rfl) (by rw[lL2];kernel_rfl) (by rw[lL2];kernel_rfl)
theorem zFS:zBp "list":=Q7 (by kernel_rfl) (by rw[lL2];kernel_rfl) (by rw[lL2];kernel_rfl) (by rw[lL2];kernel_rfl) (by rw[lL2];kernel_rfl) (by rw[lL2];kernel_rfl) (by rw[lL2];kernel_rfl) (by rw[lL2];kernel_rfl)
theorem zBV:zBp "tuple":=Q7 (by kernel_rfl) (by rw[lL2];kernel_rfl) (by rw[lL2];kernel_rfl) (by rw[lL2];kernel_rfl) (by rw[lL2];kernel_rfl) (by rw[lL2];kernel_rfl) (by rw[lL2];kernel_rfl) (by rw[lL2];kernel_rfl)
section
variable {G:Gd}{C:Cx}{F:Fr G C}{A:Around}{P:List Addr}{s:Shared}{ρ:List Addr}{st:St}
theorem zI6(Y:zBp T)(hx:s.TypeIs x Tx)(hm:Tx∈["NoneType","bool","int","str","tuple","list","dict"])(hb:Ld Tx T=true)(h:Q (.bool true) s):
  wpAny G.M A (call (.builtin "isinstance") [x,.type T]) Q E s:=
 lK4 (isinstance_true (Tx:=Tx) Y.hty (by rw[Y.sub Tx hm,hb])) ⟨hx,h⟩
theorem zGE(h:Ld T' T=false):(Value.type T'==Value.type T)=false:=by
 cases e:(Value.type T'==Value.type T)with
 |false=>rfl
 |true=>
  have:=eq_of_beq e
  cases this;simp[Ld]at h
noncomputable def zOx:List String:=["NoneType","bool","int","str","tuple","list","dict"]
noncomputable def zLO (G:Gd)(A:Around)(s:Shared)(v:Value)(T':String):Prop:=∀T,zBp T→∀(Q:Value→Shared→Prop) (E:Value→Shared→Prop),(∀t,Q (.bool (Ld T' T)) {s with toks:=t})→wpAny G.M A (call (.builtin "isinstance") [v,.type T]) Q E s
theorem Pa(hx:s.TypeIs v T')(hm:T'∈zOx)(hf:∀T,zBp T→(Value.type T'==Value.type T)=false→isSubtype (.type T') (.type T)=pure false→∀(Q:Value→Shared→Prop) (E:Value→Shared→Prop),(∀t,Q (.bool false) {s with toks:=t})→wpAny G.M A (call (.builtin "isinstance") [v,.type T]) Q E s):zLO G A s v T':=λT F Q E h=>by
 cases hs:Ld T' T with
 |true=>rw[hs]at h;exact zI6 F hx hm hs (h s.toks)
 |false=>rw[hs]at h;exact hf T F (zGE hs) (by rw[F.sub _ hm,hs]) Q E h
theorem Om(ho:s.heap.get? a=some o)(hc:o.cls=.type T')(hT:T'="tuple"∨T'="list"∨T'="dict"):zLO G A s (.ref a) T':=by
 refine Pa ⟨o,ho,hc⟩ (by rcases hT with rfl|rfl|rfl<;>decide) ?_
 rcases hT with rfl|rfl|rfl
 ·exactλT F h1 h2 Q E h=>lK4 (isinstance_false_tuple h1 F.hty h2) ⟨⟨o,ho,hc⟩,h _⟩
 ·exactλT F h1 h2 Q E h=>lK4 (isinstance_false_list h1 F.hty h2) ⟨⟨o,ho,hc⟩,h _⟩
 ·exactλT F h1 h2 Q E h=>lK4 (isinstance_false_dict h1 F.hty h2) ⟨⟨o,ho,hc⟩,h _⟩
theorem zG1(h:σ[k]? =some (.list ds)):zLq (.ref k) σ=some "list":=by
 show zNv σ[k]? =_
 rw[h];rfl
theorem zE1(I:Dg G s ρ st.sto)(r:Cr G s.heap ρ d v)(hd:zLq d st.sto=some T'):zLO G A s v T':=by
 cases d with
 |none=>cases hd;cases(show v=.none from r);exact Pa rfl (by decide) λT F h1 h2 Q E h=>lK4 (isinstance_false_none h1 F.hty h2) (h _)
 |bool b=>cases hd;cases(show v=.bool b from r);exact Pa rfl (by decide) λT F h1 h2 Q E h=>lK4 (isinstance_false_bool h1 F.hty h2) (h _)
 |int i=>cases hd;obtain⟨t,rfl⟩:=r;exact Pa (typeIs_int s i t) (by decide) λT F h1 h2 Q E h=>lK4 (isinstance_false_int h1 F.hty h2) (h _)
 |str x=>cases hd;obtain⟨t,rfl⟩:=r;exact Pa (typeIs_str s x t) (by decide) λT F h1 h2 Q E h=>lK4 (isinstance_false_str h1 F.hty h2) (h _)
 |tup ds=>cases hd;obtain⟨a,vs,rfl,hna,⟨n,ho⟩,r⟩:=r;exact Om ho rfl (.inl rfl)
 |scr ns=>
  cases hd;obtain⟨a,vs,rfl,hl,hi⟩:=r;obtain⟨o,ho,hc,_⟩:=Ci.list I.base hl;exact Om ho hc (.inr (.inl rfl))
 |ref k=>
  obtain⟨a,rfl,e1⟩:=r;have hd:zNv st.sto[k]? =some T':=hd
  cases e:st.sto[k]? with
  |none=>rw[e]at hd;cases hd
  |some o=>
   rw[e]at hd
   cases o with
   |list ds=>
    cases hd;obtain⟨vs,⟨n,ho⟩,r⟩:=I.sto k a _ e1 e;exact Om ho rfl (.inr (.inl rfl))
   |dict kvs=>
    cases hd;obtain⟨xs,⟨o,es,ep,ho,hx,_⟩,_⟩:=I.sto k a _ e1 e;exact Om ho hx.1 (.inr (.inr rfl))
   |_=>cases hd
theorem zKb(Y:zBp T)(K:Ok F s ρ st)(r:Cr G s.heap ρ d v):At F P s ρ st (RV G) (call (.builtin "isinstance") [v,.type T]) (Hl T d):=λe st' Q E hm kk=>by
 unfold Hl at hm
 cases hd:zLq d st.sto with
 |none=>rw[hd]at hm;cases hm
 |some T'=>rw[hd]at hm;cases hm;exact zE1 K.inv r hd T Y _ _ λt=>kk _ _ ρ (K.tok t) Ev.refl rfl
theorem zKe(Y:zBp T)(hg:Dj G "isinstance" (.builtin "isinstance"))(hn:C.names.lookup ("isinstance":Str)=some .globalImplicit)(hgT:Dj G Tn (.type T))(hnT:C.names.lookup Tn=some .globalImplicit)(hdT:(Tn==("__debug__":Str))=false)(he:SE G C e m)(hst:∀env,starEach [e,.Name Tn tp] env=[(false,eval e env),(false,eval (.Name Tn tp) env)]):
  SE G C (.Call (.Name "isinstance" np) [e,.Name Tn tp] [] pos) (Af m (Hl T)):=.mk <| λF s ρ st K d st' Q E hm kk=>Bk hm λa st1 e1 e2=>by
 refine lN9 (Ei K hg hn (by decide) ?_)
 rw[hst];exact lB5 rfl (lD2 (lE7 (he.run F s ρ st K a st1 _ _ e1 λv s1 ρ1 K1 x1 r1=>lE7 (Ei K1 hgT hnT hdT (Calls.spliced_nil (zKb Y K1 r1 d st' _ _ e2 λw s2 ρ2 K2 x2 r2=>kk w s2 ρ2 K2 (x1.trans x2) r2))))))
noncomputable def Dz:List D->Option (List Int)
 |[]=>some []
 |.int i::r=>(Dz r).map (i:: ·)
 |_=>none
noncomputable def argB {α:Type}(f:D->Mn α)(g:D->D->Mn α):List D->Mn α
 |[d]=>f d
 |[d,e]=>g d e
 |_=>botM
noncomputable def zJO (best:List Int->Option Int):D->Mn D
 |.ref k=>Ge k λds=>Yv (((Dz ds).bind best).map D.int)
 |_=>botM
noncomputable def zIn (best:List Int->Option Int)(two:Int->Int->Int):List D->Mn D:=argB (zJO best) (op2 (λa b=>A8 (.int (two a b))) zLe)
noncomputable def zGS (ns:List Int):Option Int:=ns.max?
noncomputable def zH4 (ns:List Int):Option Int:=ns.min?
noncomputable def Yi:List D->Mn D:=zIn zGS max
noncomputable def Vg:List D->Mn D:=zIn zH4 min
theorem Eu:∀{ds:List D}{vs:List Value}{ns:List Int},Ay G h ρ ds vs->Dz ds=some ns->∃xs:List (Int×Tok),vs=xs.map (λp=>Value.int p.1 p.2)/\xs.map (·.1)=ns
 |[],vs,ns,r,e=>by
  subst r
  cases(show some []=some ns from e)
  exact⟨[],rfl,rfl⟩
 |d::ds,vs,ns,r,e=>by
  obtain⟨v,vr,rfl,r1,r2⟩:=r
  cases d with
  |int i=>
   obtain⟨ns',e',rfl⟩:=lC1.mp e;obtain⟨xs,rfl,rfl⟩:=Eu r2 e';obtain⟨t,rfl⟩:=r1;exact⟨(i,t)::xs,rfl,rfl⟩
  |_=>cases(show none=some ns from e)
theorem Fe{xs:List (Int×Tok)}{i:Nat}(h:i<xs.length):numAt xs.toArray i=(xs.map (·.1))[i]'(by simpa using h):=by
 simp[numAt,h]
theorem Sn{gt:Bool}{xs:List (Int×Tok)}{l:Addr}{m:Int}{Q:Value->Shared->Prop}{E:Value->Shared->Prop}(hh:A.handled=none)(hl:s.heap.IsList l (xs.map (λp=>Value.int p.1 p.2)).toArray)
  (hm:(if gt then zGS else zH4) (xs.map (·.1))=some m) (h:∀t h' tk,Ci s.heap h'→Q (.int m t) {s with heap:=h',toks:=tk}):wpAny G.M A (call (.builtin (if gt then "max" else "min")) [.ref l]) Q E s:=by
 have hl':s.heap.IsList l (intItems xs.toArray):=by
  have:intItems xs.toArray=(xs.map (λp=>Value.int p.1 p.2)).toArray:=by simp[intItems]
  rw[this];exact hl
 have hne:0<xs.length:=by
  cases xs with
  |nil=>cases gt<;>cases hm
  |cons _ _=>simp
 cases gt with
 |true=>
  refine max_intList hh hl' (by simpa using hne) λv h' tk hv hk=>?_
  obtain⟨t,rfl⟩:=intItems_at hv;obtain⟨h1,h2⟩:=argBest_gt (numAt xs.toArray) (xs.toArray.size - 1)
  have hlt:argBest (λi j=>decide (numAt xs.toArray i>numAt xs.toArray j)) (xs.toArray.size - 1)<xs.length:=by simp at h1 ⊢; exact Ck (Ae x1 x0) [Ac x1 x2,eq1 (.a x2 (.n 1)) x0] rT h1 (Aq (hne))
  have hm':=List.max?_eq_some_iff.mp hm;have:numAt xs.toArray (argBest (λi j=>decide (numAt xs.toArray i>numAt xs.toArray j)) (xs.toArray.size - 1))=m:=by
   refine Int.le_antisymm (hm'.2 _ ?_) ?_
   ·rw[Fe hlt];exact List.getElem_mem _
   ·obtain⟨j,hj,e⟩:=lE2 hm'.1;simp only[←e,←Fe (by simpa using hj)];exact h2 j (by simp at hj ⊢; exact Ck (Ac x1 x0) [Ae x1 x2,Ac x2 (.a x0 (.n 1))] rT hj (Ao _ _))
  rw[this];exact h t h' tk hk
 |false=>
  refine min_intList hh hl' (by simpa using hne) λv h' tk hv hk=>?_
  obtain⟨t,rfl⟩:=intItems_at hv;obtain⟨h1,h2⟩:=argBest_lt (numAt xs.toArray) (xs.toArray.size - 1)
  have hlt:argBest (λi j=>decide (numAt xs.toArray i<numAt xs.toArray j)) (xs.toArray.size - 1)<xs.length:=by simp at h1 ⊢; exact Ck (Ae x1 x0) [Ac x1 x2,eq1 (.a x2 (.n 1)) x0] rT h1 (Aq (hne))
  have hm':=List.min?_eq_some_iff.mp hm;have:numAt xs.toArray (argBest (λi j=>decide (numAt xs.toArray i<numAt xs.toArray j)) (xs.toArray.size - 1))=m:=by
   refine Int.le_antisymm ?_ (hm'.2 _ ?_)
   ·obtain⟨j,hj,e⟩:=lE2 hm'.1;simp only[←e,←Fe (by simpa using hj)];exact h2 j (by simp at hj ⊢; exact Ck (Ac x1 x0) [Ae x1 x2,Ac x2 (.a x0 (.n 1))] rT hj (Ao _ _))
   ·rw[Fe hlt];exact List.getElem_mem _
  rw[this];exact h t h' tk hk
theorem zJf(r:Ay G h ρ [d,e] vs):∃v w,vs=[v,w]/\Cr G h ρ d v/\Cr G h ρ e w:=by
 obtain⟨v,_,rfl,r1,w,_,rfl,r2,rfl⟩:=r;exact⟨v,w,rfl,r1,r2⟩
theorem Wz{gt:Bool}{d:D}{v:Value}(K:Ok F s ρ st)(r:Cr G s.heap ρ d v):At F [] s ρ st (RV G) (call (.builtin (if gt then "max" else "min")) [v]) (zJO (if gt then zGS else zH4) d):=by
 cases d with
 |ref k=>
  obtain⟨a,rfl,e1⟩:=r;refine At.lst K e1 λds vs n _ hl r=>At.opt λy hy=>At.leaf K ?_
  obtain⟨m,hm,rfl⟩:=lC1.mp hy;obtain⟨ns,hns,hm⟩:=lB3.mp hm;obtain⟨xs,hvs,rfl⟩:=Eu r hns;exact Sn K.room.hd (xs:=xs) (by rw[←hvs];exact H0 hl) hm λt h' tk g=>⟨⟨h',tk,rfl,g⟩,_,rfl⟩
 |_=>exact At.bot
theorem BF.argB{id:String}{f:D->Mn D}{g:D->D->Mn D}(h1:∀C (F:Fr G C) s ρ st d v,Ok F s ρ st->Cr G s.heap ρ d v->At F [] s ρ st (RV G) (call (.builtin id) [v]) (f d))
  (h2:∀C (F:Fr G C) s ρ st d e v w,Ok F s ρ st->Cr G s.heap ρ d v->Cr G s.heap ρ e w->At F [] s ρ st (RV G) (call (.builtin id) [v,w]) (g d e)):BF G id (argB f g):=λC F s ρ st ds vs K r=>by
 cases ds with
 |nil=>exact At.bot
 |cons d ds=>
  cases ds with
  |nil=>obtain⟨v,rfl,r1⟩:=Ja r;exact h1 C F s ρ st d v K r1
  |cons e ds=>
   cases ds with
   |nil=>obtain⟨v,w,rfl,r1,r2⟩:=zJf r;exact h2 C F s ρ st d e v w K r1 r2
   |cons _ _=>exact At.bot
theorem zA4{c:Prop}[z:Decidable c](h1:c->i=b)(h2:¬c->i=a):Cr G h ρ (.int i) (if c then .int b u else .int a t):=by
 cases z with
 |isTrue x=>exact⟨u,by rw[h1 x];rfl⟩
 |isFalse x=>exact⟨t,by rw[h2 x];rfl⟩
theorem zLS:BF G "max" Yi:=BF.argB (λC F s ρ st d v K r=>Wz (gt:=true) K r) λC F s ρ st d e v w K r1 r2=>At.op2 (T:=λv w=>call (.builtin "max") [v,w]) r1 r2 (λa b t u=>At.leaf K (max_two_ints K.room.hd λh' tk g=>⟨⟨h',tk,rfl,g⟩,zA4 (λz=>Int.max_eq_right (lM1 z)) λz=>Int.max_eq_left (lN6.mp z)⟩)) λ_ _ _ _=>At.bot
theorem zL8:BF G "min" Vg:=BF.argB (λC F s ρ st d v K r=>Wz (gt:=false) K r) λC F s ρ st d e v w K r1 r2=>At.op2 (T:=λv w=>call (.builtin "min") [v,w]) r1 r2 (λa b t u=>At.leaf K (min_two_ints K.room.hd λh' tk g=>⟨⟨h',tk,rfl,g⟩,zA4 (λz=>Int.min_eq_right (lM1 z)) λz=>Int.min_eq_left (lN6.mp z)⟩)) λ_ _ _ _=>At.bot
end
section
open Builtin.Str
section
variable {G:Gd}{C:Cx}{F:Fr G C}{A:Around}{P:List Addr}{s:Shared}{ρ:List Addr}{st:St}
noncomputable def Ep (ds:List D):Mn D:=λst=>.ok (.ref st.sto.length) ⟨st.loc,st.sto++[.list ds]⟩
theorem At.alloc(K:Ok F s ρ st)(r:Ay G s.heap ρ ds vs.toList)(h:∀Q E,(∀tk,Q (.ref s.heap.objs.size) {s with heap:=s.heap.push (E5 vs n),toks:=tk})->wpAny G.M F.A t Q E s):At F P s ρ st (RV G) t (Ep ds):=λd st' Q E hm kk=>by
 cases hm;refine h Q E λtk=>?_
 obtain⟨I',x'⟩:=K.inv.alloc (o:=E5 vs n) (p:=.list ds) (by show Value.type "list"≠Value.type "tuple";decide) rfl (λS=>⟨vs,⟨n,lE1 _ rfl⟩,Ay.mono S _ _ r⟩) tk
 exact kk _ _ _ (K.step I' (x' [])) (x' P) ⟨_,rfl,by rw[←K.inv.len];simp⟩
theorem Xi(K:Ok F s ρ st)(r:Ay G s.heap ρ ds vs):At F P s ρ st (RV G) (newList vs) (if ds.length<=sizeLine then Ep ds else botM):=At.ite λhz=>
 At.alloc (vs:=vs.toArray) (n:=0) K r λQ E kk=>wpAny_newList (kk _) (by rw[r.all2.length];exact hz)
theorem At.tuple(K:Ok F s ρ st)(r:Ay G s.heap ρ ds vs.toList)(h:∀Q E,(∀tk,Q (.ref s.heap.objs.size) {s with heap:=s.heap.push (Xk vs n),toks:=tk})->wpAny G.M F.A t Q E s):At F P s ρ st (RV G) t (A8 (.tup ds)):=At.ret λQ E kk=>h Q E λtk=>
 kk _ _ ρ (K.grow (Ci.push _ _) Bj tk) ((Ci.push _ _).ev Bj) ⟨_,vs,rfl,K.inv.size_notin,⟨n,lE1 _ rfl⟩,Ay.mono (Ci.push _ _).stb _ _ r⟩
theorem W0(K:Ok F s ρ st)(r:Ay G s.heap ρ ds vs):At F P s ρ st (RV G) (newTuple vs) (if ds.length<=sizeLine then A8 (.tup ds)else botM):=At.ite λhz=>
 At.tuple (vs:=vs.toArray) (n:=0) K r λQ E kk=>wpAny_newTuple (kk _) (by rw[r.all2.length];exact hz)
noncomputable def Cs (ms:Mn (List D)):Mn D:=Af ms λds=>if ds.length<=sizeLine then Ep ds else botM
noncomputable def D6 (ms:Mn (List D)):Mn D:=Af ms λds=>if ds.length<=sizeLine then A8 (.tup ds)else botM
theorem zIH(h:SA G C es ms):SE G C (.List es pos) (Cs ms):=.mk <| λF s ρ st K=>
 At.stand (At.bind (h.run F s ρ st pos K) λv s' ρ' d st' K' x r=>Xi K' r)
theorem zFc(h:SA G C es ms):SE G C (.Tuple es k pos) (D6 ms):=.mk <| λF s ρ st K=>
 At.stand (At.bind (h.run F s ρ st pos K) λv s' ρ' d st' K' x r=>W0 K' r)
noncomputable def zCN (G:Gd)(T:String)(tg:Expr->Prop)(f:List D->Mn Js):Prop:=
 ∀C (F:Fr G C) s ρ st ds vs src st' (Q E E':Value->Shared->Prop),Ok F s ρ st->Ay G s.heap ρ ds vs->f ds st=.ok src st'->Ye G C F s ρ tg src st' Q->wpAny G.M F.A (call (.type T) vs) (λx s₁=>wpAny G.M F.A (pyIter x) Q E s₁) E' s
theorem zCe(hg:Dj G f (.type T))(hn:C.names.lookup f=some .globalImplicit)(hd:(f==("__debug__":Str))=false)(hF:zCN G T tg fn)(hs:SA G C (e::es) ms)(hst:∀env,starEach (e::es) env=(false,eval e env)::starEach es env)(hpl:∀env,(backTo pos (starEach es env)).any (·.1)=false):
  SI G C (.Call (.Name f np) (e::es) [] pos) tg (Af ms fn):=.mk <| λF s ρ st src st' Q E E' K hm kk=>Bk hm λds st1 e1 e2=>by
 refine lN9 (Ei K hg hn hd ?_)
 have hev:backTo pos (starEach (e::es) F.env)=(false,eval e F.env)::backTo pos (starEach es F.env):=by rw[hst];rfl
 have h1:=hs.run F s ρ st pos K;rw[hev]at h1 ⊢;exact PySem.callWith_type (by show(false||_)=false;rw[lL3];exact hpl F.env) (lD2 (h1 ds st1 _ _ e1 λvs s1 ρ1 K1 x1 r1=>hF C F s1 ρ1 st1 ds vs src st' Q E E' K1 r1 e2 λs2 ρ2 I S T Md K2 x2 X Xs t hS=>kk s2 ρ2 I S T Md K2 (x1.trans x2) X Xs t λq m=>lM7 x1.size (hS q m)))
noncomputable def Tz (n:Int):Bool:=decide (-(2 ^ 40)<=n)&&decide (n<2 ^ 40)
theorem Dl:Tz n=true↔ -(2 ^ 40)<=n/\n<2 ^ 40:=by simp[Tz]
noncomputable def zKM:List Int->Mn Js
 |[n]=>if Tz n then A8 ⟨Ez 0 1 n.toNat,λ_=>True⟩else botM
 |[a,b]=>if Tz a&&Tz b then A8 ⟨Ez a 1 (b - a).toNat,λ_=>True⟩else botM
 |[a,b,c]=>if Tz a&&Tz b&&(decide (1<=c)&&decide (c<1000))then A8 ⟨Ez a c (Builtin.Range.rangeSize a b c).toNat,λ_=>True⟩else botM
 |_=>botM
noncomputable def optB {α β:Type}(o:Option α)(f:α->Mn β):Mn β:=match o with
 |some a=>f a
 |none=>botM
theorem Ig{α β:Type}{o:Option α}{f:α->Mn β}{b:β}{st st':St}{Z:Prop}(h:optB o f st=.ok b st')(k:∀a,o=some a->f a st=.ok b st'->Z):Z:=by
 cases o with
 |none=>exact Bv h
 |some a=>exact k a rfl h
theorem Ft{α:Type}{c:Prop}[z:Decidable c]{m:Mn α}{b:α}{st st':St}{Z:Prop}(h:(if c then m else botM) st=.ok b st')(k:c->m st=.ok b st'->Z):Z:=by
 cases z with
 |isTrue x=>exact k x h
 |isFalse x=>exact Bv h
theorem At.optB{α β γ:Type}{R:Heap->List Addr->β->α->Prop}{t:Sem α}{o:Option γ}{f:γ->Mn β}(h:∀a,o=some a->At F P s ρ st R t (f a)):At F P s ρ st R t (optB o f):=by
 cases o with
 |none=>exact At.bot
 |some a=>exact h a rfl
noncomputable def Cj (ds:List D):Mn Js:=optB (Dz ds) zKM
theorem No(hc:1<=c):0<=Builtin.Range.rangeSize a b c:=by
 unfold Builtin.Range.rangeSize;rw[lO6 (zN5 hc rfl)];split
 ·have:0<=(b - a - 1) / c:=Int.ediv_nonneg (by omega) (zDI hc rfl)
  exact H6 (Ac (.n 0) (.a x0 (.n 1))) [Ac (.n 0) x0] rT this
 ·exact lN3 _
theorem Qh{o:Obj}{a b c:Int}{t u v:Tok}{n:Nat}{Q E:Value→Shared→Prop}(K:Ok F s ρ st)(hr:o={cls:=.type "range",data:=.fields #[.int a t,.int b u,.int c v]})(hsm:Builtin.Range.small a b c=true)(hc:1≤c)(tk:Nat)
  (hm:(Builtin.Range.rangeSize a b c).toNat=n) (kk:Ye G C F s ρ (λ_=>True) ⟨Ez a c n,λ_=>True⟩ st Q):
  wpAny G.M F.A (pyIter (.ref s.heap.objs.size)) Q E {s with heap:=s.heap.push o,toks:=tk}:=by
 subst hr hm;have g1:=Ci.push s.heap {cls:=.type "range",data:=.fields #[.int a t,.int b u,.int c v]};refine wpAny_pyIter_range (IsRange.new ..) hsm (Ll (F:=F) (tg:=λ_=>True) (src:=⟨Ez a c (Builtin.Range.rangeSize a b c).toNat,λ_=>True⟩) (K.grow g1 Bj tk) (λs2 ρ2 I S T Md K2 x2 X Xs t hS=>kk s2 ρ2 I S T Md K2 ((g1.ev Bj).trans x2) X Xs t λq m=>lM7 Bj (hS q m)) (by decide) zHo zFa (λh' _ _ it e'=>⟨it,a,(Builtin.Range.rangeSize a b c).toNat,?_,rfl⟩) tk)
 rw[Int.toNat_of_nonneg (No (a:=a) (b:=b) hc)]
 exact e'
theorem Jj{a b c:Int}(h3: -(2 ^ 40)<=a/\a<2 ^ 40)(h4: -(2 ^ 40)<=b/\b<2 ^ 40)(h6:1<=c)(h7:c<1000):Builtin.Range.small a b c=true:=by
 have hs0:=No (a:=a) (b:=b) h6;have hs1:Builtin.Range.rangeSize a b c<=2 ^ 42:=by
  unfold Builtin.Range.rangeSize;rw[lO6 (zN5 h6 rfl)];split
  ·have:(b - a - 1) / c<=b - a - 1:=Int.ediv_le_self _ (by omega)
   exact zIX (Ac (.a x0 (.n 1)) (.n 4398046511104)) [Ac (.s (.n 0) (.n 1099511627776)) x1,Ae x2 (.n 1099511627776),Ac x0 (.s (.s x2 x1) (.n 1))] rT h3.1 h4.2 this
  ·exact by decide
 unfold Builtin.Range.small;simp only[Builtin.Range.rangeFitsLong,lH6,Bool.or_eq_true,lH2,lN8,show c>0 by exact zN5 h6 rfl,lO4]
 exact⟨⟨⟨⟨⟨zDI h3.1 rfl,Int.lt_of_lt_of_le h3.2 (by decide)⟩,zDI h4.1 rfl,Int.lt_of_lt_of_le h4.2 (by decide)⟩,zDI h6 rfl,Int.lt_of_lt_of_le h7 (by decide)⟩,zDI hs0 rfl,zDH hs1 rfl⟩,.inr ⟨Vt (Ac (.s (.n 0) (.n 9223372036854775808)) (.a x0 (.s x1 (.n 1)))) [Ac (.s (.n 0) (.n 1099511627776)) x0,Ac (.n 1) x1] rT h4.1 h6,Vt (Ae (.a x0 (.s x1 (.n 1))) (.n 9223372036854775808)) [Ae x0 (.n 1099511627776),Ae x1 (.n 1000)] rT h4.2 h7⟩⟩
theorem Rt{a b:Int}:(Builtin.Range.rangeSize a b 1).toNat=(b - a).toNat:=by
 rw[rangeSize_one];by_cases z:a<b
 ·rw[lO6 z]
 ·rw[lO5 z,Int.toNat_of_nonpos (Int.sub_nonpos_of_le (lN6.mp z))];rfl
theorem zFI:zCN G "range" (λ_=>True) Cj:=λC F s ρ st ds vs src st' Q E E' K r hm kk=>Ig hm λns hns hm=>by
 obtain⟨xs,rfl,rfl⟩:=Eu r hns;rcases xs with _|⟨⟨a,t⟩,_|⟨⟨b,u⟩,_|⟨⟨c,v⟩,_|⟨_,_⟩⟩⟩⟩
 ·exact Bv hm
 ·refine Ft hm λh1 hm=>?_
  cases hm;exact call_range_1 (Qh K rfl (Jj ⟨by decide,by decide⟩ (Dl.mp h1) (lN3 1) (by decide)) (lN3 1) _ (Rt.trans (by rw[Int.sub_zero])) kk)
 ·refine Ft hm λh1 hm=>?_
  cases hm;have h2:=lD1.mp h1;exact call_range_2 (Qh K rfl (Jj (Dl.mp h2.1) (Dl.mp h2.2) (lN3 1) (by decide)) (lN3 1) _ Rt kk)
 ·refine Ft hm λh1 hm=>?_
  cases hm;have h2:=lD1.mp h1;have h2':=lD1.mp h2.1;have h5:=lD1.mp h2.2;have h6:1<=c:=lH3 h5.1
  have h7:c<1000:=lH3 h5.2
  exact call_range_3 (by exactλZ=>Az [_] [eq1 x0 (.n 0),Ac (.n 1) x0] rT Z h6) (Qh K rfl (Jj (Dl.mp h2'.1) (Dl.mp h2'.2) h6 h7) h6 _ rfl kk) (.inl (PyProof.noPylong_small (by omega)))
 ·exact Bv hm
noncomputable def zOC (name:Str)(id:String):Prop:=Slot "str" name id∧typeOf (.builtin id)=pure (.type "method_descriptor")
theorem Tk{name:Str}{id:String}(slot:Slot "str" name id)(ty:typeOf (.builtin id)=pure (.type "method_descriptor")):zOC name id:=⟨slot,ty⟩
noncomputable def SM (G:Gd)(name:Str)(id:String)(f:Str->List D->Mn D):Prop:=
 zOC name id/\
 ∀C (F:Fr G C) s ρ st x t ds vs,Ok F s ρ st->Ay G s.heap ρ ds vs->At F [] s ρ st (RV G) (call (.builtin id) (.str x t::vs)) (f x ds)
noncomputable def strM {α:Type}(f:Str->Mn α):D->Mn α
 |.str x=>f x
 |_=>botM
theorem zF3{name:Str}{id:String}{Fm:Str->List D->Mn D}{o e:Expr}{es:List Expr}{mo:Mn D}{ms:Mn (List D)}{apos pos:Pos}(hM:SM G name id Fm)(ho:SE G C o mo)(hs:SA G C (e::es) ms)
  (hbase:∀env,attributeBase o name env (eval o env)=eval o env) (hst:∀env,starEach (e::es) env=(false,eval e env)::starEach es env) (hpl:∀env,(backTo pos (starEach es env)).any (·.1)=false)
  (hfew:∀env,methodCallForm ((e::es).length+([]:List Keyword).length) (backTo pos (starEach (e::es) env)) (backToKw pos (keywordEach [] env))=true) (hline:(apos.endLine==pos.line)=true):
  SE G C (.Call (.Attribute o name apos) (e::es) [] pos) (Af mo (strM λx=>Af ms (Fm x))):=.mk <| λF s ρ st K d st' Q E hm kk=>Bk hm λdx st1 e1 e2=>by
 refine wpAny_Call_method_lateS (hbase F.env) (hfew F.env) hline (ho.run F s ρ st K dx st1 _ _ e1 λov s1 ρ1 K1 x1 r1=>?_)
 cases dx with
 |str x=>
  obtain⟨t,rfl⟩:=r1;refine⟨"str",id,PySem.F.plainAttrs_str,hM.1.1,hM.1.2,typeIs_str _ _ _,(λ_ e=>nomatch e),?_⟩
  have hev:backTo pos (starEach (e::es) F.env)=(false,eval e F.env)::backTo pos (starEach es F.env):=by rw[hst];rfl
  have h1:=hs.run F s1 ρ1 st1 pos K1;rw[hev]at h1 ⊢;exact Bk e2 λds st2 e3 e4=>lB5 (by show(false||_)=false;rw[lL3];exact hpl F.env) (lD2 (h1 ds st2 _ _ e3 λvs s2 ρ2 K2 x2 r2=>hM.2 C F s2 ρ2 st2 x t ds vs K2 r2 d st' Q E e4 λw s3 ρ3 K3 x3 r3=>kk w s3 ρ3 K3 ((x1.trans x2).trans x3) r3))
 |_=>exact Bv e2
theorem zAY{name:Str}{id:String}{f:Str->D->Mn D}(h:zOC name id)(k:∀C (F:Fr G C) s ρ st x t d v,Ok F s ρ st->Cr G s.heap ρ d v->At F [] s ρ st (RV G) (call (.builtin id) [.str x t,v]) (f x d)):SM G name id λx=>arg1 (f x):=⟨h,λC F s ρ st x t ds vs K r=>by
 cases ds with
 |nil=>exact At.bot
 |cons d ds=>
  cases ds with
  |nil=>obtain⟨v,rfl,r1⟩:=Ja r;exact k C F s ρ st x t d v K r1
  |cons _ _=>exact At.bot⟩
theorem At.strM{f:Str->Mn D}{d:D}{v:Value}{T:Value->Sem Value}(r:Cr G s.heap ρ d v)(h:∀y u,At F P s ρ st (RV G) (T (.str y u)) (f y)):At F P s ρ st (RV G) (T v) (strM f d):=by
 cases d with
 |str y=>obtain⟨u,rfl⟩:=r;exact h y u
 |_=>exact At.bot
noncomputable def zLV (x y:Str):Mn D:=if(y.length==0)=false/\x.length<=sizeLine/\(partsBetween x (occurrences x y 0 x.length (x.length+1)) y.length).length<=sizeLine then Ep ((Txt.split x y).map D.str)else botM
noncomputable def Mx (x:Str):List D->Mn D:=arg1 (strM (zLV x))
theorem Rc:∀(n:Nat) (xs:List Str),Ay G h ρ (xs.map D.str) (strsFrom n xs)
 |_,[]=>by simp[Ay,strsFrom]
 |n,x::r=>by
  dsimp only[lL4,Ay,strsFrom]
  exact⟨_,_,rfl,⟨_,rfl⟩,Rc (n+1) r⟩
theorem zC2:SM G "split" "str.split" Mx:=zAY (by with_reducible exact Tk PySem.F.slot_str_split PySem.F.type_str_split) λC F s ρ st x t d v K r=>At.strM (T:=λv=>call (.builtin "str.split") [.str x t,v]) r λy u=>At.ite λ⟨hy,hx,hn⟩=>by
 have itself:Txt.split x y=[x]→(∀(Q:Value→Shared→Prop) (E:Value→Shared→Prop),(∀tk,Q (.ref s.heap.objs.size) {s with heap:=s.heap.push (E5 [Value.str x t].toArray 0),toks:=tk})→wpAny G.M F.A (call (.builtin "str.split") [.str x t,.str y u]) Q E s)→At F [] s ρ st (RV G) (call (.builtin "str.split") [.str x t,.str y u]) (Ep ((Txt.split x y).map D.str)):=λe k=>by
  rw[e];exact At.alloc (vs:=[Value.str x t].toArray) (n:=0) K (ds:=[.str x]) (by exact⟨_,_,rfl,⟨_,rfl⟩,rfl⟩) k
 cases h1:(decide (x.length<y.length)||decide (strKind x<strKind y))
 ·cases hf:(occurrences x y 0 x.length (x.length+1)).isEmpty
  ·have e:Txt.split x y=partsBetween x (occurrences x y 0 x.length (x.length+1)) y.length:=(lO5 (ne_true_of_eq_false h1)).trans (lO5 (ne_true_of_eq_false hf))
   rw[e];exact At.alloc (vs:=(strsFrom s.toks (partsBetween x (occurrences x y 0 x.length (x.length+1)) y.length)).toArray) (n:=0) K (Rc _ _) λQ E kk=>call_meets PySem.F.slot_str_split (typeIs_str _ _ _) PySem.F.entry_str_split (PySem.F.args_str_split_2 _ _) (meets_str_split_sep x y t u h1 hy hf hx hn) (kk _)
  ·exact itself ((lO5 (ne_true_of_eq_false h1)).trans (lO6 hf)) λQ E kk=>call_meets PySem.F.slot_str_split (typeIs_str _ _ _) PySem.F.entry_str_split (PySem.F.args_str_split_2 _ _) (meets_str_split_not_found x y t u h1 hy hf) (kk _)
 ·exact itself (lO6 h1) λQ E kk=>call_meets PySem.F.slot_str_split (typeIs_str _ _ _) PySem.F.entry_str_split (PySem.F.args_str_split_2 _ _) (meets_str_split_cannot_occur x y t u h1) (kk _)
noncomputable def Jv:List D->Option (List Str)
 |[]=>some []
 |.str x::r=>(Jv r).map (x:: ·)
 |_=>none
theorem Mo{h:Heap}:∀{ds:List D}{vs:List Value}{xs:List Str},Ay G h ρ ds vs->Jv ds=some xs->∃l:List (Str×Tok),vs=strValues l/\l.map (·.1)=xs
 |[],vs,ns,r,e=>by
  subst r
  cases(show some []=some ns from e)
  exact⟨[],rfl,rfl⟩
 |d::ds,vs,ns,r,e=>by
  obtain⟨v,vr,rfl,r1,r2⟩:=r
  cases d with
  |str i=>
   obtain⟨ns',e',rfl⟩:=lC1.mp e;obtain⟨xs,rfl,rfl⟩:=Mo r2 e';obtain⟨t,rfl⟩:=r1;exact⟨(i,t)::xs,rfl,rfl⟩
  |_=>cases(show none=some ns from e)
noncomputable def zM8 (x:Str):D->Mn D
 |.ref k=>Ge k λds=>optB (Jv ds) λxs=>if JoinOk x xs=true then A8 (.str (Str.join x xs))else botM
 |_=>botM
noncomputable def Gm (x:Str):List D->Mn D:=arg1 (zM8 x)
theorem zHP:SM G "join" "str.join" Gm:=zAY (by with_reducible exact Tk PySem.F.slot_str_join PySem.F.type_str_join) λC F s ρ st x t d v K r=>by
 cases d with
 |ref k=>
  obtain⟨a,rfl,e1⟩:=r;refine At.lst K e1 λds vs n _ hl r=>At.optB λxs e2=>At.ite λh1=>At.tok K λQ E kk=>?_
  obtain⟨l,hvs,rfl⟩:=Mo r e2;exact SC.join (l:=l) (by rw[←hvs];exact H0 hl) rfl h1 λt' k=>kk _ _ ⟨t',by rw[←StrLaws.glued_eq_join];rfl⟩
 |_=>exact At.bot
noncomputable def Hs (x:Str):List D->Mn D:=arg1 (strM λy=>A8 (.bool (Txt.endswith x y)))
noncomputable def Og (x:Str):List D->Mn D:=arg1 (strM λy=>if x.length<=sizeLine then A8 (.str (Txt.rstripChars x y))else botM)
theorem Va:SM G "endswith" "str.endswith" Hs:=zAY (by with_reducible exact Tk PySem.F.slot_str_endswith PySem.F.type_str_endswith) λC F s ρ st x t d v K r=>
 At.strM (T:=λv=>call (.builtin "str.endswith") [.str x t,v]) r λy u=>At.same K λQ E kk=>SC.endswith (kk _ rfl)
theorem zBo:SM G "rstrip" "str.rstrip" Og:=zAY (by with_reducible exact Tk PySem.F.slot_str_rstrip PySem.F.type_str_rstrip) λC F s ρ st x t d v K r=>
 At.strM (T:=λv=>call (.builtin "str.rstrip") [.str x t,v]) r λy u=>At.ite λh1=>At.tok K λQ E kk=>SC.rstripChars (λt' k=>kk _ _ ⟨_,rfl⟩) h1
end
end
section
variable {G:Gd}{C:Cx}{F:Fr G C}{A:Around}{P:List Addr}{s:Shared}{ρ:List Addr}{σ:C3}{st:St}
theorem Dg.growPriv(I:Dg G s ρ σ)(g:Ci s.heap h')(z:s.heap.objs.size<=h'.objs.size)(hq:s.heap.objs.size<=q)(hp:zFs h' q)(t:Nat):
  Dg G {s with heap:=h',toks:=t} (ρ++[q]) (σ++[.priv])/\Ev [] s.heap ρ h' (ρ++[q])/\Lh s.heap ρ h' (ρ++[q]):=by
 have hqr:q∉ρ:=λm=>lL7 _ (lF5 (I.mem_lt m) hq)
 have S:Lh s.heap ρ h' (ρ++[q]):=g.ext E9 λa o n1 ho _ m=>by
  rcases lJ6.mp m with m|m
  ·exact n1 m
  ·rw[lq0 m]at ho;exact lL7 _ (lF5 (lM0 ho) hq)
 refine⟨⟨λb o e=>g b o (I.base b o e),λa m=>?_,?_,by simp[I.len],λk a p' e1 e2=>?_,I.os,I.gens⟩,Eo (g.ev z) hq,S⟩
 ·rcases lJ6.mp m with m|m
  ·exact I.new a m
  ·rw[lq0 m];exact I.h0_le hq
 ·refine lG5.mpr ⟨I.nodup,by simp,λa m b m' e=>?_⟩
  rw[lq0 m']at e;exact hqr (e▸m)
 ·by_cases hk:k<ρ.length
  ·rw[lA6 hk]at e1;rw[lA6 (by rw[←I.len];exact hk)]at e2
   exact(I.sto k a p' e1 e2).mono S (λo' ho'=>g a o' ho') z
  ·have:k=ρ.length:=by
    have:=(lq2 e1).1
    simp at this
    exact Du (λZ=>An [_,_] [Ae x1 x0,Ac x0 x1] rT Z (lN7.mp hk)) (λZ=>An [_,_] [Ae x0 x1,Ae x1 (.a x0 (.n 1))] rT Z this)
   subst this;simp at e1
   rw[I.len]at e2;simp at e2
   subst e1 e2;exact hp
theorem zI1(hh:A.handled=none)(Ap:ZipApart z TI TO i1 i2 l1 l2)(hz:IsZip s.heap z TI TO .none)(hTI:IsPair s.heap TI (.ref i1) (.ref i2))(hTO:IsPair s.heap TO a b)(h1:s.heap.IsListIter i1 l1 k1)(h2:s.heap.IsListIter i2 l2 k2)(hl1:s.heap.IsList l1 xs)(hl2:s.heap.IsList l2 ys)(hend:xs[k1]? =none∨ys[k2]? =none)(hQ:∀h',(∀c o,c≠z->c≠TO->c≠i1->c≠i2->s.heap.get? c=some o->h'.get? c=some o)->zFs h' TO->Q none {s with heap:=h'}):wpAny G.M A (pyNext (.ref z)) Q E s:=by
 have hT:s.TypeIs (.ref z) "zip":=⟨_,hz,rfl⟩
 have fin:∀h' e,(∀c o,c≠z→c≠TO→c≠i1→c≠i2→s.heap.get? c=some o→h'.get? c=some o)→zFs h' TO→(∃o,h'.get? e=some o∧o.cls=.type "StopIteration")→
   wpAny G.M A (do if ←isInstance (.ref e) (.type "StopIteration")then pure none else throw (.ref e)) Q E {s with heap:=h'}:=λh' e hk hp ho=>by
  apply yo;intro _ k0
  obtain⟨o,ho,hc⟩:=ho;apply k0
  refine lN9 (wpAny_isInstance (T:="StopIteration") (b:=true) ⟨o,ho,hc⟩ isSubtype_stop ?_)
  exact lO1 (hQ h' hk hp)
 refine lN9 (wpAny_attempt (lB4 (name:=Str.ofString "__next__") hT PySem.F.slot_zip_next
  (lI8 PySem.F.slot_zip_next hT PySem.F.entry_zip_next ?_ (PySem.F.args_zip_next_1 _))))
 show wpAny _ _ (field (.ref z) 2 >>= _) _ _ _
 refine lN9 (wpAny_field hz rfl (x:=.bool false) rfl ?_)
 refine lN9 (wpAny_field hz rfl (x:=.ref TI) rfl (lN9 (wpAny_seqItems hTI rfl ?_)))
 refine lN9 (lN9 (wpAny_field hz rfl (x:=.none) rfl (lO1 ?_)))
 dsimp only[lO4]
 refine lN9 (wpAny_rule (lN9 (wpAny_field hz rfl (x:=.ref TO) rfl (lN9 (lF9 hz (by simp) λg1 z1 u1=>?_)))))
 replace z1:IsZip g1 z TI TO .ellipsis:=z1
 refine lN9 ?_
 simp only[List.zipIdx_cons,List.zipIdx_nil,lJ3,List.forIn_nil];refine lN9 (lN9 (wpAny_onRaise ?_))
 cases hx:xs[k1]? with
 |none=>
  refine lN9 (wpAny_nextOf_list_end hh (h1.extBut u1.extBut Ap.i1z) (hl1.extBut u1.extBut Ap.l1z) hx λg2 e u2 he=>?_)
  obtain⟨oe,hoe,hce⟩:=he;have z2:IsZip g2 z TI TO .ellipsis:=u2 _ _ Ap.i1z.symm z1
  have hez:e≠z:=λq=>by subst q;rw[z2]at hoe;cases hoe;simp at hce
  refine lF9 z2 (by simp) λg3 _ u3=>?_
  exact fin g3 e (λc o c1 _ c3 _ q=>u3.extBut _ _ c1 (u2 _ _ c3 (u1.extBut _ _ c1 q))) ⟨a,b,u3.extBut _ _ Ap.TOz (u2 _ _ Ap.TOi1 (u1.extBut _ _ Ap.TOz hTO))⟩ ⟨oe,u3.extBut _ _ hez hoe,hce⟩
 |some x=>
  have hy:ys[k2]? =none:=by rcases hend with h|h;rw[hx]at h;cases h;exact h
  refine lN9 (wpAny_nextOf_list_item (h1.extBut u1.extBut Ap.i1z) (hl1.extBut u1.extBut Ap.l1z) hx λg2 _ u2=>lO1 ?_)
  have t2:IsPair g2 TO a b:=u2.extBut _ _ Ap.TOi1 (u1.extBut _ _ Ap.TOz hTO)
  refine lN9 (wpAny_seqItems t2 rfl (lN9 (wpAny_updateSeq_pair t2 λg3 t3 u3=>?_)))
  replace t3:IsPair g3 TO x b:=t3
  refine lN9 (wpAny_letGo (lO1 (lN9 (lN9 (wpAny_onRaise ?_)))))
  refine lN9 (wpAny_nextOf_list_end hh (((h2.extBut u1.extBut Ap.i2z).extBut u2.extBut Ap.i12.symm).extBut u3.extBut Ap.TOi2.symm)
   (((hl2.extBut u1.extBut Ap.l2z).extBut u2.extBut Ap.l2i1).extBut u3.extBut Ap.l2TO) hy λg4 e u4 he=>?_)
  obtain⟨oe,hoe,hce⟩:=he;have z4:IsZip g4 z TI TO .ellipsis:=u4 _ _ Ap.i2z.symm (u3.extBut _ _ Ap.TOz.symm (u2.extBut _ _ Ap.i1z.symm z1))
  have hez:e≠z:=λq=>by subst q;rw[z4]at hoe;cases hoe;simp at hce
  refine lF9 z4 (by simp) λg5 _ u5=>?_
  exact fin g5 e (λc o c1 c2 c3 c4 q=>u5.extBut _ _ c1 (u4 _ _ c4 (u3.extBut _ _ c2 (u2.extBut _ _ c3 (u1.extBut _ _ c1 q))))) ⟨x,b,u5.extBut _ _ Ap.TOz (u4 _ _ Ap.TOi2 t3)⟩ ⟨oe,u5.extBut _ _ hez hoe,hce⟩
noncomputable def Fu (ds1 ds2:List D):List D:=(ds1.zip ds2).map λp=>D.tup [p.1,p.2]
inductive ZX (i1 i2:Addr)(k1 k2:Nat)(ds1 ds2 rem:List D)(h:Heap)(ρ:List Addr):Prop
 |mk (l1 l2:Addr) (i:Nat) (e1:ρ[k1]? =some l1) (e2:ρ[k2]? =some l2) (h1:h.IsListIter i1 l1 i) (h2:h.IsListIter i2 l2 i) (e3:rem=(Fu ds1 ds2).drop i)
theorem zLB{P:Addr->Prop}{a b c d:Addr}(h1:P a)(h2:P b)(h3:P c)(h4:P d)(q:Addr)(m:q∈[a,b,c,d]):P q:=by
 simp only[lL5,lI3,or_false]at m;rcases m with rfl|rfl|rfl|rfl<;>assumption
theorem zLn(n:x∉a::l):x≠a:=λe=>n (by rw[e];exact lq1)
theorem zMZ(n:x∉a::b::l):x≠b:=zLn λm=>n (lq4 _ m)
theorem zNg(n:x∉a::b::c::l):x≠c:=zMZ λm=>n (lq4 _ m)
theorem zO5(n:x∉a::b::c::d::l):x≠d:=zNg λm=>n (lq4 _ m)
structure ZS (G:Gd)(z TI TO i1 i2:Addr)(k1 k2 kp:Nat)(ds1 ds2:List D)(f0:Value)(rem:List D)(h:Heap)(ρ:List Addr)(σ:C3):Prop where
 iz:Rq G h ρ z
 j1:Rq G h ρ i1
 j2:Rq G h ρ i2
 s1:σ[k1]? =some (.list ds1)
 s2:σ[k2]? =some (.list ds2)
 sp:σ[kp]? =some .priv
 rp:ρ[kp]? =some TO
 ti:TI∉ρ
 n12:i1≠i2
 zip:IsZip h z TI TO f0
 pair:IsPair h TI (.ref i1) (.ref i2)
 ex:ZX i1 i2 k1 k2 ds1 ds2 rem h ρ
noncomputable def zDL (k1 k2 kp:Nat)(ds1 ds2:List D)(σ:C3):Prop:=σ[k1]? =some (.list ds1)/\σ[k2]? =some (.list ds2)/\σ[kp]? =some .priv
theorem zGb(x:Ev P h ρ h' ρ')(N:NT h P)(ho:h.get? a=some o)(hn:a∉ρ)(hd:∀es n,o.data≠.dict es n)(hc:∀v,o.data≠.cell v)(hl:o.cls≠.type "list"):a∉ρ'∧h'.get? a=some o:=by
 obtain⟨o',ho',q⟩:=x.keep a o ho hn (λm=>by
  obtain⟨o',ho',z⟩:=N a m;rw[ho]at ho';cases ho';rcases z with⟨_,_,z⟩|⟨_,z⟩|⟨_,_,z⟩
  ·exact hd _ _ z
  ·exact hc _ z
  ·rw[z]at hl;exact hl rfl)
 rw[q.eq hd]at ho';exact⟨x.notin ho hn,ho'⟩
theorem ZS.apart(Z:ZS G z TI TO i1 i2 k1 k2 kp ds1 ds2 f0 rem s.heap ρ σ)(I:Dg G s ρ σ)(e1:ρ[k1]? =some l1)(e2:ρ[k2]? =some l2)(h1:s.heap.IsListIter i1 l1 i)(h2:s.heap.IsListIter i2 l2 i):ZipApart z TI TO i1 i2 l1 l2:=by
 obtain⟨o1,ho1,hc1,_⟩:=h1;obtain⟨o2,ho2,hc2,_⟩:=h2;have hz:s.heap.get? z=some _:=Z.zip
 have hp:s.heap.get? TI=some _:=Z.pair
 have inr:∀{a b:Addr},a∈ρ->b∉ρ->a≠b:=λm n e=>n (e▸m)
 have mTO:=lD5 Z.rp;have m1:=lD5 e1;have m2:=lD5 e2;refine⟨λe=>?_,inr mTO Z.iz.2.1,λe=>?_,λe=>?_,λe=>Z.ti (e▸mTO),λe=>?_,λe=>?_,inr mTO Z.j1.2.1,inr mTO Z.j2.2.1,Z.n12,inr m1 Z.iz.2.1,λe=>?_,inr m1 Z.j1.2.1,inr m1 Z.j2.2.1,inr m2 Z.iz.2.1,λe=>?_,inr m2 Z.j1.2.1,inr m2 Z.j2.2.1⟩
 ·rw[e,hz]at hp;simp at hp
 ·rw[e,hz]at ho1;cases ho1;simp at hc1
 ·rw[e,hz]at ho2;cases ho2;simp at hc2
 ·rw[e,ho1]at hp;cases hp;simp at hc1
 ·rw[e,ho2]at hp;cases hp;simp at hc2
 ·subst e;have:=Bx I.nodup e1 Z.rp
  subst this;have:=Z.s1;rw[Z.sp]at this;cases this
 ·subst e;have:=Bx I.nodup e2 Z.rp
  subst this;have:=Z.s2;rw[Z.sp]at this;cases this
theorem Xx{ds1 ds2:List D}{i:Nat}{d:D}(h:(Fu ds1 ds2)[i]? =some d):∃a b,ds1[i]? =some a/\ds2[i]? =some b/\d=.tup [a,b]:=by
 rw[Fu,lG3,lC1]at h;obtain⟨⟨a,b⟩,h,rfl⟩:=h;obtain⟨h1,h2⟩:=List.getElem?_zip_eq_some.mp h
 exact⟨a,b,h1,h2,rfl⟩
theorem Xc:(Fu ds1 ds2).length=min ds1.length ds2.length:=by simp[Fu]
theorem ZS.own{z TI TO i1 i2:Addr}{k1 k2 kp:Nat}{ds1 ds2 rem:List D}{f0:Value}{h:Heap}(t:ZS G z TI TO i1 i2 k1 k2 kp ds1 ds2 f0 rem h ρ σ):∀q,q∈[z,TO,i1,i2]->X3 G h ρ σ q:=zLB (.inl (.inl t.iz)) (.inr ⟨kp,t.rp,t.sp⟩) (.inl (.inl t.j1)) (.inl (.inl t.j2))
theorem ZS.np{z TI TO i1 i2:Addr}{k1 k2 kp:Nat}{ds1 ds2 rem:List D}{f0:Value}{h:Heap}(t:ZS G z TI TO i1 i2 k1 k2 kp ds1 ds2 f0 rem h ρ σ):∀q,q∈[z,TO,i1,i2]->zFs h q->q=TO:=zLB (λp=>absurd p t.iz.notPrv) (λ_=>rfl) (λp=>absurd p t.j1.notPrv) (λp=>absurd p t.j2.notPrv)
noncomputable def Hx (e:Expr):Prop:=∃elts k pos,e=.Tuple elts k pos
theorem zIT{z TI TO i1 i2:Addr}{k1 k2 kp:Nat}{ds1 ds2:List D}:zFq G z [z,TO,i1,i2] Hx (zDL k1 k2 kp ds1 ds2) (ZS G z TI TO i1 i2 k1 k2 kp ds1 ds2 .none)
  (λv rem h ρ σ=>∃T,v=.ref T/\ZS G z TI TO i1 i2 k1 k2 kp ds1 ds2 (rawInt T) rem h ρ σ) where
 own rem h ρ σ t:=t.own
 ownM v rem h ρ σ t:=t.elim λT z=>z.2.own
 keep P rem s ρ σ s' ρ' σ' t I0 I' x N g:=by
  apply yo;intro _ k0
  obtain⟨l1,l2,i,e1,e2,h1,h2,e3⟩:=t.ex;obtain⟨iz',ez⟩:=t.iz.keep x N;obtain⟨j1',ej1⟩:=t.j1.keep x N;obtain⟨j2',ej2⟩:=t.j2.keep x N;obtain⟨ti',hp'⟩:=zGb x N t.pair t.ti (λ_ _ z=>by cases z) (λ_ z=>by cases z) (by intro z;simp at z)
  obtain⟨o1,ho1,r1⟩:=h1;obtain⟨o2,ho2,r2⟩:=h2;apply k0
  exact⟨iz',j1',j2',g.1,g.2.1,g.2.2,x.pre _ _ t.rp,ti',t.n12,ez.trans t.zip,hp',l1,l2,i,x.pre _ _ e1,x.pre _ _ e2,⟨o1,ej1.trans ho1,r1⟩,⟨o2,ej2.trans ho2,r2⟩,e3⟩
 next A s ρ σ rem Q E hh I0 t h1 h2:=by
  obtain⟨l1,l2,i,e1,e2,hi1,hi2,e3⟩:=t.ex;have Dd:=t.apart I0 e1 e2 hi1 hi2;obtain⟨a,b,hTO⟩:=I0.sto kp TO .priv t.rp t.sp;obtain⟨xs,hl1,r1⟩:=I0.sto k1 l1 _ e1 t.s1;obtain⟨ys,hl2,r2⟩:=I0.sto k2 l2 _ e2 t.s2;have np:=t.np
  cases rem with
  |nil=>
   have hend:xs[i]? =none∨ys[i]? =none:=by
    have h3:=Jc e3;rw[Xc]at h3;rw[←r1.size,←r2.size]at h3;rcases Nat.le_total xs.size ys.size with h|h
    ·left;simp;lia
    ·right;simp;lia
   refine Eg (zI1 hh Dd t.zip t.pair hTO hi1 hi2 hl1.list hl2.list hend λh' hk hp zz=>?_)
   exact h1 rfl h' s.toks ⟨λc o n e=>hk c o (zLn n) (zMZ n) (zNg n) (zO5 n) e,zz,λq m p=>by rw[np q m p];exact hp⟩
  |cons d rest=>
   apply yo;intro _ k0
   obtain⟨hd,hr⟩:=Gi e3;obtain⟨da,db,ha,hb,rfl⟩:=Xx hd;obtain⟨va,hva,ra⟩:=r1.all2.get i da ha;obtain⟨vb,hvb,rb⟩:=r2.all2.get i db hb;apply k0
   refine wpAny_pyNext_zip_item Dd t.zip t.pair hTO hi1 hi2 hl1.list hl2.list (by simpa using hva) (by simpa using hvb) λh' a1 a2 a3 a4 a5 a6 hk=>?_
   have ho:It [z,TO,i1,i2] s.heap h':=⟨λc o n e=>hk c o (zLn n) (zMZ n) (zNg n) (zO5 n) e,by exact Cp (Ac x1 x0) [Cz x0 (.a x1 (.n 1))] rT a6,λq m p=>by rw[np q m p];exact⟨_,_,a2⟩⟩
   have S:=ho.stb t.own;refine h2 _ rest rfl (.ref s.heap.objs.size) h' s.toks ho ?_ ⟨_,rfl,?_⟩
   ·refine⟨_,#[va,vb],rfl,I0.size_notin,⟨0,a5⟩,?_⟩
    exact⟨_,_,rfl,Cr.mono S _ _ ra,_,_,rfl,Cr.mono S _ _ rb,rfl⟩
   ·have it1:Rq G h' ρ i1:=by obtain⟨o,ho,hc,hd⟩:=a3;exact⟨t.j1.1,t.j1.2.1,o,_,_,ho,hc,by decide,hd⟩
    have it2:Rq G h' ρ i2:=by obtain⟨o,ho,hc,hd⟩:=a4;exact⟨t.j2.1,t.j2.2.1,o,_,_,ho,hc,by decide,hd⟩
    exact⟨⟨t.iz.1,t.iz.2.1,_,_,_,a1,rfl,by decide,rfl⟩,it1,it2,t.s1,t.s2,t.sp,t.rp,t.ti,t.n12,a1,hk _ _ Dd.TIz Dd.TITO Dd.TIi1 Dd.TIi2 t.pair,l1,l2,i+1,e1,e2,a3,a4,hr⟩
 go A s ρ σ tgt v rest Q E ht I0 t h:=by
  obtain⟨T,rfl,t⟩:=t;obtain⟨elts,k,pos,rfl⟩:=ht;obtain⟨l1,l2,i,e1,e2,hi1,hi2,e3⟩:=t.ex;have Dd:=t.apart I0 e1 e2 hi1 hi2;refine wpAny_letOwnedTupleGo_zip t.zip λh' hz' hs'=>h h' ⟨λb o n e=>hs'.extBut _ _ (zLn n) e,lM5 hs'.1.symm,λq m p=>?_⟩ ?_
  ·obtain⟨x,y,p⟩:=p;by_cases hq:q=z
   ·subst hq;exact absurd ⟨x,y,p⟩ t.iz.notPrv
   ·exact⟨x,y,hs'.extBut _ _ hq p⟩
  ·apply yo;intro _ k0
   obtain⟨_,_,o1,T1,vs1,ho1,hc1,hT1,hd1⟩:=id t.j1;obtain⟨_,_,o2,T2,vs2,ho2,hc2,hT2,hd2⟩:=id t.j2;apply k0
   exact⟨⟨t.iz.1,t.iz.2.1,_,_,_,hz',rfl,by decide,rfl⟩,⟨t.j1.1,t.j1.2.1,o1,T1,vs1,hs'.extBut _ _ Dd.i1z ho1,hc1,hT1,hd1⟩,⟨t.j2.1,t.j2.2.1,o2,T2,vs2,hs'.extBut _ _ Dd.i2z ho2,hc2,hT2,hd2⟩,t.s1,t.s2,t.sp,t.rp,t.ti,t.n12,hz',hs'.extBut _ _ Dd.TIz t.pair,
    l1,l2,i,e1,e2,hi1.extBut hs'.extBut Dd.i1z,hi2.extBut hs'.extBut Dd.i2z,e3⟩
theorem zDg:Jl G z (ZS G z TI TO i1 i2 k1 k2 kp ds1 ds2 .none):=λA s ρ σ rem Q E hh t h=>wpAny_pyIter_zip t.zip h
noncomputable def zNu:D->D->Mn Js
 |.ref k1,.ref k2=>Ge k1 λa=>Ge k2 λb=>λst=>.ok ⟨Fu a b,zDL k1 k2 st.sto.length a b⟩ ⟨st.loc,st.sto++[.priv]⟩
 |_,_=>botM
noncomputable def Za:List D->Mn Js:=argB (λ_=>botM) zNu
theorem Fk{α:Type}{k:Nat}{f:List D->Mn α}{b:α}{st st':St}{Z:Prop}(h:Ge k f st=.ok b st')(w:∀ds,st.sto[k]? =some (.list ds)->f ds st=.ok b st'->Z):Z:=Qa (f:=λds=>f ds st) h w
theorem zIP{P:Js->St->Prop}{ds:List D}{st st':St}{src:Js}(hb:Za ds st=.ok src st')(k:∀k1 k2 a b,ds=[.ref k1,.ref k2]->st.sto[k1]? =some (.list a)->st.sto[k2]? =some (.list b)->P ⟨Fu a b,zDL k1 k2 st.sto.length a b⟩ ⟨st.loc,st.sto++[.priv]⟩):P src st':=by
 rcases ds with _|⟨d1,_|⟨d2,_|⟨d3,l⟩⟩⟩
 ·exact Bv hb
 ·exact Bv hb
 ·cases d1 with
  |ref k1=>cases d2 with
   |ref k2=>exact Fk hb λa q1 hb=>Fk hb λb q2 hb=>by cases hb;exact k k1 k2 a b rfl q1 q2
   |_=>exact Bv hb
  |_=>exact Bv hb
 ·exact Bv hb
theorem zCq{P:Prop}(r:Ay G h ρ [.ref k1,.ref k2] vs)(k:∀l1 l2,vs=[.ref l1,.ref l2]->ρ[k1]? =some l1->ρ[k2]? =some l2->P):P:=by
 obtain⟨v1,_,rfl,⟨l1,rfl,e1⟩,v2,_,rfl,⟨l2,rfl,e2⟩,rfl⟩:=r;exact k l1 l2 rfl e1 e2
theorem zKc:zCN G "zip" Hx Za:=λC F s ρ st ds vs src st' Q E E' K r hb=>zIP (P:=λsrc st'=>Ye G C F s ρ Hx src st' Q→wpAny G.M F.A (call (.type "zip") vs) (λx s₁=>wpAny G.M F.A (pyIter x) Q E s₁) E' s) hb λk1 k2 a b ed q1 q2 kk=>by
 subst ed;refine zCq r λl1 l2 ev e1 e2=>?_
 subst ev;refine Gb K.inv e1 q1 λxs n1 hl1 _=>Gb K.inv e2 q2 λys n2 hl2 _=>?_
 refine Eg (call_zip_2 (H0 hl1) (H0 hl2) λh' hz hTI hTO hi1 hi2 hsz hk zz=>?_)
 refine wpAny_pyIter_zip hz ?_
 obtain⟨I',x',S'⟩:=K.inv.growPriv (h':=h') hk zz (q:=s.heap.objs.size+3) (lI4 _ _) ⟨_,_,hTO⟩ s.toks
 have hnew:∀j,j≠3->s.heap.objs.size+j∉ρ++[s.heap.objs.size+3]:=λj hj m=>by
  rcases lJ6.mp m with m|m
  ·exact lL7 _ (lF5 (K.inv.mem_lt m) (lI4 _ j))
  ·exact hj (Nat.add_left_cancel (lq0 m))
 have h0:∀j,G.h0.get? (s.heap.objs.size+j)=none:=λj=>K.inv.h0_le (lI4 _ _)
 have klt1:k1<st.sto.length:=(lq2 q1).1
 have klt2:k2<st.sto.length:=(lq2 q2).1
 apply yo;intro _ k0
 obtain⟨o1,ho1,hc1,hd1⟩:=id hi1;obtain⟨o2,ho2,hc2,hd2⟩:=id hi2;apply k0
 exact kk {s with heap:=h'} (ρ++[s.heap.objs.size+3]) (s.heap.objs.size+4) [s.heap.objs.size+4,s.heap.objs.size+3,s.heap.objs.size,s.heap.objs.size+1] _ _ (K.step I' x') x' (zIT (TI:=s.heap.objs.size+2)) zDg
  ⟨⟨h0 4,hnew 4 (by decide),_,_,_,hz,rfl,by decide,rfl⟩,⟨h0 0,hnew 0 (by decide),o1,_,_,ho1,hc1,by decide,hd1⟩,⟨h0 1,hnew 1 (by decide),o2,_,_,ho2,hc2,by decide,hd2⟩,
   (lA6 klt1).trans q1,(lA6 klt2).trans q2,lq3,by rw[←K.inv.len];exact lq3,hnew 2 (by decide),lN0 (lI5 _),hz,hTI,l1,l2,0,E9 _ _ e1,E9 _ _ e2,hi1,hi2,rfl⟩
  (zLB (lI4 _ _) (lI4 _ _) (lN4 _) (lI4 _ _))
end
section
open W
structure zFB (G:Gd)(K:Frag):Prop where
 kin:K.In G.h0
 g:∃mg,G.h0.Ns mainGlobals mg
 b:∃mb,G.h0.Ns builtinsNs mb∧∀x:Str,x≠"__name__"→mb x=bootBuiltins x
 lim:G.h0.NoLimit
section
variable {G:Gd}{K:Frag}{C:Cx}
theorem zFB.glob(L:zFB G K)(e:nsIn K mainGlobals x=some (some v)):Fs G x v:=by
 obtain⟨mg,n⟩:=L.g;exact⟨mg,n,mg_of L.kin n e⟩
theorem zFB.bui(L:zFB G K)(e:nsIn K mainGlobals x=some none)(e2:bootBuiltins x=some v)(hn:(x==("__name__":Str))=false):Dj G x v:=by
 obtain⟨mg,n⟩:=L.g;obtain⟨mb,n',h⟩:=L.b;refine⟨mg,mb,n,mg_none_of L.kin n e,n',?_⟩
 rw[h x (λz=>by rw[z]at hn;simp at hn)]
 exact e2
noncomputable def zIo {α:Type}(o:Option α)(f:α->Bool):Bool:=match o with
 |some a=>f a
 |none=>false
theorem L0{P:Prop}{α:Type}{o:Option α}{f:α->Bool}(q:zIo o f=true)(k:∀a,o=some a->f a=true->P):P:=by
 cases o with
 |none=>cases q
 |some a=>exact k a rfl q
noncomputable def zMd (i:Int):Value->Bool
 |.int j _=>j==i
 |_=>false
theorem zHR{P:Prop}{i:Int}{v:Value}(h:zMd i v=true)(k:∀t,v=.int i t->P):P:=by
 cases v<;>first|(cases h;done)|(cases(lN8.mp h);exact k _ rfl)
noncomputable def zOL (K:Frag)(x:Str)(i:Int):Bool:=zIo (nsIn K mainGlobals x) λo=>zIo o (zMd i)
theorem zFB.globInt(L:zFB G K){x:Str}{i:Int}(e:zOL K x i=true):∃t,Fs G x (.int i t):=
 L0 e λo h1 e=>L0 e λv h2 e=>zHR e λt h3=>⟨t,L.glob (by rw[h1,h2,h3])⟩
theorem zEm(hg:∃t,Fs G x (.int i t))(hn:C.names.lookup x=some .globalImplicit)(hd:(x==("__debug__":Str))=false):SE G C (.Name x pos) (A8 (.int i)):=
 let⟨_,h⟩:=hg;Xy h hn hd
noncomputable def zFl:Data->Option FuncData
 |.func fd=>some fd
 |_=>none
theorem zGz(h:zFl d=some fd):d=.func fd:=by
 cases d<;>first|(cases h;done)|(cases h;rfl)
noncomputable def zO1 (K:Frag)(a:Addr):Option FuncData:=(K.lookup a).bind λo=>zFl o.data
noncomputable def Et (K:Frag)(a:Addr):FuncData:=(zO1 K a).getD default
noncomputable def zJE:Data->Option (Array Value)
 |.fields vs=>some vs
 |_=>none
theorem zKI(h:zJE d=some vs):d=.fields vs:=by
 cases d<;>first|(cases h;done)|(cases h;rfl)
noncomputable def zMw:Value->Option Addr
 |.ref a=>some a
 |_=>none
theorem zI5(h:zMw v=some a):v=.ref a:=by
 cases v<;>first|(cases h;done)|(cases h;rfl)
noncomputable def zNO (q:Str):Value->Bool
 |.str q' _=>q'==q
 |_=>false
theorem zI8{P:Prop}(h:zNO q v=true)(k:∀t,v=.str q t->P):P:=by
 cases v<;>first|(cases h;done)|(cases(lN8.mp h);exact k _ rfl)
noncomputable def zJD (K:Frag)(cd:Value)(q:Str):Bool:=zIo (zMw cd) λc=>zIo (K.lookup c) λo=>zIo (zJE o.data) λvs=>zIo (vs[1]?:Option Value) (zNO q)
noncomputable def Ob (K:Frag)(a:Addr):Bool:=(zO1 K a).isSome
noncomputable def zNJ:NameKind->Bool:=λk=>k== .local||k== .cell
noncomputable def zNs (names:List (Str×NameKind))(xs:List Str):Bool:=xs.all λx=>zIo (names.lookup x) zNJ
noncomputable def Is (names:List (Str×NameKind)):Bool:=names.all λp=>p.2 !=.free
theorem Ko(h:Ob K a=true):∃o,K.lookup a=some o/\o.data=.func (Et K a):=by
 obtain⟨fd,e⟩:=lB1.mp h;obtain⟨o,e1,e2⟩:=lB3.mp e;refine⟨o,e1,?_⟩
 unfold Et;rw[e];exact zGz e2
theorem zFv{cd:Value}{q:Str}(L:zFB G K)(h:zJD K cd q=true):G.h0.CodeRec cd q:=
 L0 h λc e1 h=>L0 h λo e2 h=>L0 h λvs e3 h=>L0 h λv e4 h=>zI8 h λt e5=>⟨c,o,vs,t,zI5 e1,L.kin _ _ e2,zKI e3,by rw[e4,e5]⟩
theorem C2(h:l.length=n+1):∃a r,l=a::r/\r.length=n:=by
 cases l with
 |nil=>cases h
 |cons a r=>exact⟨a,r,rfl,Nat.succ.inj h⟩
theorem Ee(h:∀a,bindArgs fd ⟨[a],[]⟩=pure [(x,a)]):∀vs:List Value,vs.length=[x].length->bindArgs fd ⟨vs,[]⟩=pure ([x].zip vs):=λvs hl=>by
 obtain⟨a,r1,rfl,k1⟩:=C2 hl;rw[lA1 (l:=r1) k1]
 exact h a
theorem R7(h:∀a b,bindArgs fd ⟨[a,b],[]⟩=pure [(x,a),(y,b)]):∀vs:List Value,vs.length=[x,y].length->bindArgs fd ⟨vs,[]⟩=pure ([x,y].zip vs):=λvs hl=>by
 apply yo;intro _ k0
 obtain⟨a,r1,rfl,k1⟩:=C2 hl;obtain⟨b,r2,rfl,k2⟩:=C2 k1;apply k0
 rw[lA1 (l:=r2) k2]
 exact h a b
theorem Qc(h:∀a b c,bindArgs fd ⟨[a,b,c],[]⟩=pure [(x,a),(y,b),(z,c)]):∀vs:List Value,vs.length=[x,y,z].length->bindArgs fd ⟨vs,[]⟩=pure ([x,y,z].zip vs):=λvs hl=>by
 apply yo;intro _ k0
 obtain⟨a,r1,rfl,k1⟩:=C2 hl;obtain⟨b,r2,rfl,k2⟩:=C2 k1;obtain⟨c,r3,rfl,k3⟩:=C2 k2;apply k0
 rw[lA1 (l:=r3) k3]
 exact h a b c
theorem zDQ(h:∀a b c d,bindArgs fd ⟨[a,b,c,d],[]⟩=pure [(x,a),(y,b),(z,c),(u,d)]):∀vs:List Value,vs.length=[x,y,z,u].length->bindArgs fd ⟨vs,[]⟩=pure ([x,y,z,u].zip vs):=λvs hl=>by
 apply yo;intro _ k0
 obtain⟨a,r1,rfl,k1⟩:=C2 hl;obtain⟨b,r2,rfl,k2⟩:=C2 k1;obtain⟨c,r3,rfl,k3⟩:=C2 k2;obtain⟨d,r4,rfl,k4⟩:=C2 k3;apply k0
 rw[lA1 (l:=r4) k4]
 exact h a b c d
theorem zMH(h:∀a b c d e,bindArgs fd ⟨[a,b,c,d,e],[]⟩=pure [(x,a),(y,b),(z,c),(u,d),(v,e)]):∀vs:List Value,vs.length=[x,y,z,u,v].length->bindArgs fd ⟨vs,[]⟩=pure ([x,y,z,u,v].zip vs):=λvs hl=>by
 apply yo;intro _ k0
 obtain⟨a,r1,rfl,k1⟩:=C2 hl;obtain⟨b,r2,rfl,k2⟩:=C2 k1;obtain⟨c,r3,rfl,k3⟩:=C2 k2;obtain⟨d,r4,rfl,k4⟩:=C2 k3;obtain⟨e,r5,rfl,k5⟩:=C2 k4;apply k0
 rw[lA1 (l:=r5) k5]
 exact h a b c d e
theorem zLz(h:∀a b c d e f,bindArgs fd ⟨[a,b,c,d,e,f],[]⟩=pure [(x,a),(y,b),(z,c),(u,d),(v,e),(r,f)]):∀vs:List Value,vs.length=[x,y,z,u,v,r].length->bindArgs fd ⟨vs,[]⟩=pure ([x,y,z,u,v,r].zip vs):=λvs hl=>by
 apply yo;intro _ k0
 obtain⟨a,r1,rfl,k1⟩:=C2 hl;obtain⟨b,r2,rfl,k2⟩:=C2 k1;obtain⟨c,r3,rfl,k3⟩:=C2 k2;obtain⟨d,r4,rfl,k4⟩:=C2 k3;obtain⟨e,r5,rfl,k5⟩:=C2 k4;obtain⟨f,r6,rfl,k6⟩:=C2 k5;apply k0
 rw[lA1 (l:=r6) k6]
 exact h a b c d e f
noncomputable def zG7 (K:Frag)(a:Addr)(xs:List Str):Bool:=
 Ob K a&&zJD K (Et K a).code (Et K a).qualname&&(Et K a).closure.isEmpty&&((Et K a).globals==mainGlobals)&&((Et K a).builtins==builtinsNs)&&
 (Et K a).scope.kind== .function&&!(Et K a).scope.isCoroutine&&!(Et K a).scope.isGenerator&&zNs (Et K a).scope.names xs&&Is (Et K a).scope.names
theorem zHD{a:Addr}{body:List Stmt}{xs:List Str}(L:zFB G K)(h:zG7 K a xs=true)(hb:(Et K a).body=.stmts body)(hbind:∀vs:List Value,vs.length=xs.length->bindArgs (Et K a) ⟨vs,[]⟩=pure (xs.zip vs)):zJq G a (Et K a) body xs:=by
 simp only[zG7,lH6,lN8,lG1,List.isEmpty_iff]at h;apply yo;intro _ k0
 obtain⟨⟨⟨⟨⟨⟨⟨⟨⟨h1,h2⟩,h3⟩,h4⟩,h5⟩,h6⟩,h7⟩,h8⟩,h9⟩,h10⟩:=h;obtain⟨o,ho,hd⟩:=Ko h1;apply k0
 refine⟨⟨o,L.kin _ _ ho,hd⟩,hb,h4,h3,h5,zFv L h2,L.lim,h6,h7,h8,hbind,λx m=>?_,λx m=>?_⟩
 ·exact L0 (lH7.mp h9 x m) λk e h=>by
   rw[e];rcases Bool.or_eq_true_iff.mp h with z|z
   ·exact .inl (by rw[lN8.mp z])
   ·exact .inr (by rw[lN8.mp z])
 ·have:=lH7.mp h10 x m
  intro z;rw[z]at this;simp at this
theorem zND{a:Addr}{body:List Stmt}{names:List (Str×NameKind)}{xs:List Str}{is:List Nat}{tbl:List Str}{n:Nat}{m:Mn Fl}(Fi:zJq G a (Et K a) body xs)(hn:(Et K a).scope.names=names){code:Value}(hcd:(Et K a).code=code){qual:Str}(hql:(Et K a).qualname++".<locals>."=qual)(tnd:tbl.Nodup)
  (hi:is.map (λi=>tbl[i]?)=xs.map some) (hb:Xj G ⟨names,tbl,n,code,qual⟩ body m):SF G (n+1) a (D2 is m):=by
 subst hn hcd hql;refine zHU Fi tnd ?_ hb
 clear hb Fi
 induction is generalizing xs with
 |nil=>cases xs with
  |nil=>exact .nil
  |cons _ _=>simp at hi
 |cons i is ih=>cases xs with
  |nil=>simp at hi
  |cons x xs=>
   simp only[lL4,lJ1]at hi;exact .cons hi.1 (ih hi.2)
theorem zFB.fd(L:zFB G K)(h:Ob K a=true):∃o fd,G.h0.get? a=some o/\o.data=.func fd:=by
 obtain⟨o,ho,hd⟩:=Ko h;exact⟨o,_,L.kin _ _ ho,hd⟩
noncomputable abbrev Ai:Mn (List D):=A8 []
noncomputable abbrev A9 (m:Mn D)(ms:Mn (List D)):Mn (List D):=Af m λd=>Af ms λds=>A8 (d::ds)
noncomputable abbrev Ad (f:D->D->Mn D)(m1 m2:Mn D):Mn D:=Af m1 λa=>Af m2 λb=>f a b
noncomputable abbrev C1 (f:D->D->Mn D)(m1 m2:Mn D):Mn Bool:=Af m1 λa=>Af m2 λb=>Af (f a b) B5
noncomputable abbrev zM4 (f g:D->D->Mn D)(m1 m2 m3:Mn D):Mn Bool:=Af m1 λa=>Af m2 λb=>Af (f a b) λc=>Af (B5 c) λt=>if t then(Af m3 λc=>Af (g b c) B5)else A8 false
noncomputable abbrev Ca (m:Mn D):Mn Fl:=Af m λd=>A8 (.ret d)
noncomputable abbrev As (i:Nat):D->Bm->Option Bm:=λd loc=>some (Be loc i d)
noncomputable def zOd:Stmt->Option (List Stmt×List (Str×NameKind))
 |.FunctionDef _ _ b _ _ _ s _ _ _=>some (b,s.names)
 |_=>none
noncomputable def Tf (p:Program)(n:Nat):List Stmt:=((p.main.body[n]?.bind zOd).map (·.1)).getD []
noncomputable def Oj (p:Program)(n:Nat):List (Str×NameKind):=((p.main.body[n]?.bind zOd).map (·.2)).getD []
noncomputable def zDn (C:Cx)(scope:Scope)(cls:List Nat):Bool:=
 scope.kind== .function&&(scope.names.all λp=>p.2 !=.cell)&&(scope.names.all λp=>p.2 !=.local||scope.names.lookup p.1==some .local)&&
 (scope.names.all λp=>p.2 !=.free||((C.names.lookup p.1==some .cell||C.names.lookup p.1==some .free)&&C.tbl.contains p.1))&&
 ((List.range C.tbl.length).all λi=>match C.tbl[i]? with
  |some x=>scope.names.lookup x !=some .local||cls.contains i
  |none=>true)
theorem zBF(h:zDn C scope cls=true):Q9 C scope cls:=by
 simp only[zDn,lH6,lN8]at h;obtain⟨⟨⟨⟨h1,h2⟩,h3⟩,h4⟩,h5⟩:=h;refine⟨h1,λx m z=>?_,λx m z=>?_,λx m z=>?_,λi x e z=>?_⟩
 ·have:=lH7.mp h2 x m
  rw[z]at this;simp at this
 ·have:=lH7.mp h3 x m
  rw[z]at this;simpa using this
 ·have:=lH7.mp h4 x m
  rw[z]at this;simpa using this
 ·have:=lH7.mp h5 i (lK9.mpr (lq2 e).1)
  simp only[e]at this;rw[z]at this;simpa using this
theorem zBm(h1:(np.line==cpos.line)=true)(h2:(scope.names.any λp=>p.1==x&&(p.2== .local||p.2== .cell))=false)(env:Env)(hk:env.kindOf x=some .local)(hb:env.blockKind=.function):
  swapsWith (.ListComp elt gens scope cpos) (some (.Name x np)) line env=pure true:=by
 show(pure (env.blockKind== .function&&env.kindOf x==some .local&&np.line==cpos.line&&!(scope.names.any λp=>p.1==x&&(p.2== .local||p.2== .cell))):Sem Bool)=pure true
 rw[h1,h2,hk,hb];rfl
theorem Xe(env:Env)(hk:env.kindOf x=some .cell):
  swapsWith (.ListComp elt gens scope cpos) (some (.Name x np)) line env=pure false:=by
 show(pure (env.blockKind== .function&&env.kindOf x==some .local&&np.line==cpos.line&&!(scope.names.any λp=>p.1==x&&(p.2== .local||p.2== .cell))):Sem Bool)=pure false
 rw[hk];have:(some NameKind.cell==some NameKind.local)=false:=by decide
 rw[this];simp
end
end
section
open Builtin.Str
noncomputable def D1 (v:Option Int)(dflt n:Int):Int:=match v with
 |none=>dflt
 |some i=>max 0 (min (if i<0 then i+n else i) n)
noncomputable def G8 {α:Type}(lo hi:Option Int)(l:List α):List α:=(l.drop (D1 lo 0 l.length).toNat).take (D1 hi l.length l.length - D1 lo 0 l.length).toNat
theorem Hd{v:Option Int}{d n:Int}(hn:0<=n)(hd:0<=d)(hd2:d<=n):0<=D1 v d n/\D1 v d n<=n:=by
 unfold D1;split
 ·exact⟨hd,hd2⟩
 ·exact⟨Int.le_max_left _ _,Int.max_le.mpr ⟨hn,Int.min_le_right _ _⟩⟩
theorem zBZ(lo hi:Option Int)(n:Nat):sliceBounds lo hi none n=(D1 lo 0 n,D1 hi n n,1):=by
 cases lo<;>cases hi<;>simp[sliceBounds,D1]
theorem W7{a b:Int}(ha:0<=a):sliceRange a b 1=(List.range (b - a).toNat).map λk=>a.toNat+k:=by
 unfold sliceRange;simp only[show(1:Int)>0 by decide,lO4,Int.ediv_one]
 have e:(if a<b then b - a+1 - 1 else 0).toNat=(b - a).toNat:=by
  split
  ·rw[Int.add_sub_cancel]
  ·rename_i h;rw[Int.toNat_of_nonpos (Int.sub_nonpos_of_le (lN6.mp h))];rfl
 rw[e];refine lE3 λk _=>?_
 show(a+1*(k:Int)).toNat=a.toNat+k
 rw[Int.one_mul,Int.toNat_add ha (Int.natCast_nonneg k),lG2]
theorem Rg{α:Type}(lo hi:Option Int)(l:List α):(sliceRange (D1 lo 0 l.length) (D1 hi l.length l.length) 1).filterMap (l[·]?)=G8 lo hi l:=by
 obtain⟨h1,h2⟩:=Hd (v:=lo) (d:=0) (n:=(l.length:Int)) (by exact(cast_nn _)) (by exact lN3 _) (by exact(cast_nn _))
 obtain⟨h3,h4⟩:=Hd (v:=hi) (d:=(l.length:Int)) (n:=(l.length:Int)) (lM2 h1 h2) (lM2 h1 h2) (by exact lN3 _)
 rw[W7 h1];unfold G8;by_cases h:D1 lo 0 l.length<=D1 hi l.length l.length
 ·exact StrLaws.picks l _ _ (by exact G9 (Zd λZ=>Az [(↑l.length),(↑(D1 lo 0 ↑l.length).toNat),(↑(D1 hi ↑l.length ↑l.length - D1 lo 0 ↑l.length).toNat),(D1 hi ↑l.length ↑l.length),(D1 lo 0 ↑l.length)] [Ae x0 (.a x1 x2),Ac x3 x0,eq1 x1 x4,eq1 x2 (.s x3 x4)] rT Z h4 (D5 (Zd λY=>Az [(D1 lo 0 ↑l.length)] [Ae x0 (.n 0),Ac (.n 0) x0] rT Y h1)) (D5 (Zd λY=>Az [(D1 lo 0 ↑l.length),(D1 hi ↑l.length ↑l.length)] [Ae (.s x1 x0) (.n 0),Ac x0 x1] rT Y h))))
 ·have e:(D1 hi l.length l.length - D1 lo 0 l.length).toNat=0:=by(clear h4 h3 h2 h1;omega)
  rw[e];simp
theorem U8(items:Array Value)(lo hi:Option Int):slicePick items lo hi none=(G8 lo hi items.toList).toArray:=by
 unfold slicePick;rw[zBZ];congr 1
 have:=Rg lo hi items.toList
 simpa using this
theorem Bs.cut{α β:Type}{R:α->β->Prop}{l:List α}{l':List β}(h:Bs R l l')(lo hi:Option Int):Bs R (G8 lo hi l) (G8 lo hi l'):=by
 unfold G8;rw[h.length];exact(h.drop _).take _
theorem Yd(x:Str):x.cps.toList.length=x.length:=by simp[Str.length]
theorem T9(x:Str)(l u:Option Int):Txt.slice x l u=⟨(G8 l u x.cps.toList).toArray⟩:=by
 have e:strSliceIndices l u 1 x.length=sliceRange (D1 l 0 x.cps.toList.length) (D1 u x.cps.toList.length x.cps.toList.length) 1:=by
  simp only[strSliceIndices,D1,show(1:Int)>0 by decide,lO4,Str.length,lD9]
  cases l<;>cases u<;>rfl
 have p:=Rg l u x.cps.toList;unfold Txt.slice;split
 ·rename_i h;simp only[lH6,lN8]at h;have h2:=h.2;rw[e]at h2;have hall:G8 l u x.cps.toList=x.cps.toList:=by
   obtain⟨h1,h3⟩:=Hd (v:=l) (d:=0) (n:=(x.cps.toList.length:Int)) (by exact(cast_nn _)) (by exact lN3 _) (by exact(cast_nn _))
   obtain⟨h4,h5⟩:=Hd (v:=u) (d:=(x.cps.toList.length:Int)) (n:=(x.cps.toList.length:Int)) (lM2 h1 h3) (lM2 h1 h3) (by exact lN3 _)
   rw[W7 h1]at h2;rw[lq6,lG4,←Yd]at h2;unfold G8;generalize hA:D1 l 0 (x.cps.toList.length:Int)=A at*
   generalize hB:D1 u (x.cps.toList.length:Int) (x.cps.toList.length:Int)=B at*
   rcases Nat.eq_zero_or_pos x.cps.toList.length with hz|hz
   ·rw[lA1 hz];simp
   ·have e0:A.toNat=0:=by(clear hz p e h4 hB h1 hA h;omega)
    rw[e0,lK8,lC0 (lM5 h2.symm)]
  rw[hall]
 ·rw[e];congr 2
  simpa using p
inductive SO (G:Gd)(C:Cx):Option Expr->Option (Mn D)->Prop
 |none:SO G C none none
 |some {e m}:SE G C e m->SO G C (some e) (some m)
noncomputable def V6:D->Mn (Option Int)
 |.int i=>A8 (some i)
 |_=>botM
noncomputable def Hf:Option (Mn D)->Mn (Option Int)
 |none=>A8 none
 |some m=>Af m V6
noncomputable def Jb (d:D)(l h:Option Int):Mn D:=match d with
 |.str x=>if x.length<=sizeLine then A8 (.str ⟨(G8 l h x.cps.toList).toArray⟩)else botM
 |.ref k=>Ge k λds=>if ds.length<=sizeLine then Ep (G8 l h ds)else botM
 |_=>botM
noncomputable def Fb (m:Mn D)(lo hi:Option (Mn D)):Mn D:=Af m λa=>Af (Af (Hf lo) λl=>Af (Hf hi) λh=>A8 (l,h)) λp=>Jb a p.1 p.2
section
variable {G:Gd}{C:Cx}{F:Fr G C}{A:Around}{P:List Addr}{s:Shared}{ρ:List Addr}{st:St}
noncomputable abbrev RP:Heap->List Addr->Option Int->Value->Prop:=λ_ _ k v=>IsPart v k
noncomputable abbrev zO6:Heap->List Addr->Option Int×Option Int->Value->Prop:=λh ρ p v=>∃a vl vu,v=.ref a/\h.IsSliceOf a vl vu .none/\IsPart vl p.1/\IsPart vu p.2
theorem zGw:SO G C none none:=.none
theorem zIR{e:Expr}{m:Mn D}(h:SE G C e m):SO G C (some e) (some m):=.some h
theorem zAI{oe:Option Expr}{om:Option (Mn D)}(h:SO G C oe om)(K:Ok F s ρ st):At F P s ρ st RP (evalPart oe F.env) (Hf om):=by
 cases h with
 |none=>exact At.pure K .none
 | @some e m h=>
  refine At.ofEq (t':=eval e F.env >>= λv=>pure v) (by rw[evalPart_some];simp) ?_
  refine At.bind (h.run F s ρ st K) λv s' ρ' d st' K' x r=>?_
  cases d with
  |int i=>obtain⟨t,rfl⟩:=r;exact At.pure K' (.int _ t)
  |_=>exact At.bot
theorem zFF{lo hi:Option Expr}{ml mh:Option (Mn D)}{p:Pos}(h1:SO G C lo ml)(h2:SO G C hi mh)(K:Ok F s ρ st):
  At F P s ρ st zO6 (eval (.Slice lo hi none p) F.env) (Af (Hf ml) λl=>Af (Hf mh) λh=>A8 (l,h)):=λd st' Q E hm kk=>Bk hm λl st1 e1 e2=>Bk e2 λh st2 e3 e4=>by
 cases e4;refine wpAny_Slice (zAI (P:=[]) h1 K l st1 _ _ e1 λvl s1 ρ1 K1 x1 r1=>zAI (P:=[]) h2 K1 h _ _ _ e3 λvu s2 ρ2 K2 x2 r2=>?_)
 rw[evalPart_none];exact lO1 (kk _ _ ρ2 (K2.grow (Ci.push _ _) Bj _) ((x1.trans x2).nil.trans ((Ci.push _ _).ev Bj)) ⟨_,vl,vu,rfl,Heap.IsSliceOf.new ..,r1,r2⟩)
theorem M2{v:Value}{k:Option Int}(h:IsPart v k):∃p:Option (Int×Tok),v=partValue p/\p.map (·.1)=k:=by
 cases h with
 |none=>exact⟨none,rfl,rfl⟩
 |int i t=>exact⟨some (i,t),rfl,rfl⟩
theorem zBt{d:D}{o i:Value}{p:Option Int×Option Int}{value:Expr}{lo hi:Option Expr}{pp:Pos}(K:Ok F s ρ st)(r1:Cr G s.heap ρ d o)(r2:zO6 s.heap ρ p i):
  At F P s ρ st (RV G) (subscriptTail value (.Slice lo hi none pp) o i) (Jb d p.1 p.2):=by
 obtain⟨a,vl,vu,rfl,hs,pl,pu⟩:=r2;have hsub:∀o,subscripted (.Slice lo hi none pp) false o (.ref a)=operate [.ref a,o] (getItem o (.ref a)):=λ_=>rfl
 cases d with
 |str x=>
  obtain⟨t,rfl⟩:=r1;refine At.ite λhz=>At.tok K λQ E kk=>?_
  obtain⟨l,rfl,el⟩:=M2 pl;obtain⟨u,rfl,eu⟩:=M2 pu;have key:∀t' k,Q (.str (Txt.slice x (l.map (·.1)) (u.map (·.1))) t') {s with toks:=k}:=λt' k=>kk _ k ⟨t',by rw[T9,el,eu]⟩
  refine tail_any (typeIs_str s x t) PySem.F.slot_str_getitem.lookup (wpAny_getItem_str_slice (l:=l) (u:=u) (st:=none) hs rfl ?_) (hsub _)
  exact post_val_or_str (c:=((1:Int)==1&&(strSliceIndices (l.map (·.1)) (u.map (·.1)) 1 x.length).length==x.length)=true) ⟨lM7 (Txt.slice_le x _ _) hz,λt' k=>key t' k⟩
 |ref k=>
  obtain⟨al,rfl,e1⟩:=r1;refine At.lst K e1 λds vs n _ hl r=>At.ite λhz=>At.alloc (vs:=(G8 p.1 p.2 vs.toList).toArray) (n:=0) K (Ay.of_all2 (r.all2.cut _ _)) λQ E kk=>?_
  refine tail_any (H0 hl).typeIs slot_list_getitem.lookup (wpAny_getItem_list_slice (H0 hl) hs pl pu .none (by simp) ?_ (by rw[r.size];exact hz)) (hsub _)
  rw[U8];exact kk _
 |_=>exact At.bot
theorem zFp{v:Expr}{lo hi:Option Expr}{p pos:Pos}{m:Mn D}{ml mh:Option (Mn D)}(h:SE G C v m)(h1:SO G C lo ml)(h2:SO G C hi mh):SE G C (.Subscript v (.Slice lo hi none p) pos) (Fb m ml mh):=.mk <| λF s ρ st K=>by
 refine At.ofEq (t':=do let o ←eval v F.env;let i ←holding [o] (eval (.Slice lo hi none p) F.env);standAt pos;subscriptTail v (.Slice lo hi none p) o i) (by rw[eval_Subscript];rfl) ?_
 refine At.bind (h.run F s ρ st K) λo s' ρ' d st' K' x r1=>?_
 refine At.bind (At.hold (zFF h1 h2 K')) λi s'' ρ'' q st'' K'' x2 r2=>?_
 exact At.stand (zBt (lo:=lo) (hi:=hi) (value:=v) K'' (Cr.mono (x2.stb K'.inv .nil) _ _ r1) r2)
noncomputable def B0:D->D->Mn D
 |.ref a,d=>match d with
  |.ref b=>Ge a λx=>Ge b λy=>if x.length+y.length<=sizeLine then Ep (x++y)else botM
  |_=>botM
 |.tup x,d=>match d with
  |.tup y=>if x≠[]/\y≠[]/\x.length+y.length<=sizeLine then A8 (.tup (x++y))else botM
  |_=>botM
 |a,b=>zIe a b
theorem Vd{ds:List D}{h:Heap}{vs:Array Value}(r:Ay G h ρ ds vs.toList)(hd:ds≠[]):¬vs.isEmpty=true:=λe=>hd (lA1 (by rw[←r.size,Array.isEmpty_iff.mp e];rfl))
theorem zH9:Hc G .Add B0:=λC F s ρ st d1 d2 v1 v2 K r1 r2=>by
 cases d1 with
 |ref a=>cases d2 with
  |ref b=>
   obtain⟨a,rfl,ea⟩:=r1;obtain⟨b,rfl,eb⟩:=r2;refine At.lst K ea λx vs n1 _ hl1 rr1=>At.lst K eb λy ws n2 _ hl2 rr2=>At.ite λhz=>At.alloc (vs:=vs++ws) (n:=0) K (Ay.of_all2 (by rw[lE0];exact rr1.all2.append rr2.all2)) λQ E kk=>?_
   exact PySem.P.add_list hl1 hl2 (kk _) (by rw[rr1.size,rr2.size];exact hz)
  |_=>exact At.bot
 |tup x=>cases d2 with
  |tup y=>
   obtain⟨a,vs,rfl,na,⟨n1,h1⟩,rr1⟩:=r1;obtain⟨b,ws,rfl,nb,⟨n2,h2⟩,rr2⟩:=r2;refine At.ite λhz=>At.tuple (vs:=vs++ws) (n:=0) K (Ay.of_all2 (by rw[lE0];exact rr1.all2.append rr2.all2)) λQ E kk=>?_
   exact PySem.P.add_tuple h1 h2 (Vd rr1 hz.1) (Vd rr2 hz.2.1) (kk _) (by rw[rr1.size,rr2.size];exact hz.2.2)
  |_=>exact At.bot
 |_=>exact zF1 C F s ρ st _ d2 v1 v2 K r1 r2
end
end
section
open Builtin.Str
section
variable {G:Gd}{C:Cx}{F:Fr G C}{A:Around}{P:List Addr}{s:Shared}{ρ:List Addr}{st:St}
noncomputable def N2 {α:Type}(n:Int)(l:List α):List α:=(List.replicate n.toNat l).flatten
noncomputable def Ey:D->D->Mn D
 |.ref k,d=>match d with
  |.int n=>Ge k λds=>if Gs n=true/\ds.length*n.toNat<=16777216 then Ep (N2 n ds)else botM
  |_=>botM
 |a,b=>zJV a b
theorem Bs.rep{α β:Type}{R:α->β->Prop}{l:List α}{l':List β}(h:Bs R l l'):∀k:Nat,Bs R (List.replicate k l).flatten (List.replicate k l').flatten
 |0=>by simp;exact .nil
 |k+1=>by exact h.append (h.rep k)
theorem zGP(hl:s.heap.get? l=some (E5 items k))(hi:Gs x=true)(hsz:items.size*x.toNat<=16777216)(h:Q (.ref s.heap.objs.size) {s with heap:=s.heap.push (E5 (N2 x items.toList).toArray 0)}):wpAny G.M A (binaryOp .Mult (.ref l) (.int x u)) Q E s:=by
 have hi':=Ea.mp hi;have e:List.foldl (λx1 x2=>x1++x2) #[] (List.replicate (if items.isEmpty=true then 0 else x.toNat) items)=(N2 x items.toList).toArray:=by
  rw[listMul_foldl];congr 1
  simp only[List.nil_append,N2];split
  ·rename_i h;rw[Array.isEmpty_iff.mp h];simp
  ·rfl
 refine wpAny_binaryOp_repeat_ref (T:="list") (U:="int") (by decide) ⟨_,hl,rfl⟩ (λs'=>typeIs_int s' x u) noFill_list_mul PySem.F.fills_int_mul PySem.F.slot_int_rmul repeat_list PySem.F.slot_int_index.lookup
  (call_meets PySem.F.slot_int_rmul (typeIs_int s x u) PySem.F.entry_int_rmul (PySem.F.args_int_rmul_2 _ _) (int___rmul___int_list x u l items k)
   ⟨hl,rfl,⟨_,hl,rfl⟩,call_meets PySem.F.slot_list_mul ⟨_,hl,rfl⟩ PySem.F.entry_list_mul (PySem.F.args_list_mul_2 _ _)
    (AutoListH.list___mul___list_int_3 l items k x u (by simp[Builtin.List.listFitsIndex];(clear e h hsz hi hl;lia)) (by(clear e hi' h hi hl;lia)) (by simp[Builtin.List.listTooLong,sizeLine];exact hsz))
    ⟨hl,?_⟩⟩)
 rw[e];exact h
theorem zGr:Hc G .Mult Ey:=λC F s ρ st d1 d2 v1 v2 K r1 r2=>by
 cases d1 with
 |ref k=>cases d2 with
  |int n=>
   obtain⟨a,rfl,ea⟩:=r1;obtain⟨u,rfl⟩:=r2;exact At.lst K ea λds vs nn _ hl r=>At.ite λhz=>At.alloc (vs:=(N2 n vs.toList).toArray) (n:=0) K (Ay.of_all2 (r.all2.rep _)) λQ E kk=>zGP hl hz.1 (by rw[r.size];exact hz.2) (kk _)
  |_=>exact At.bot
 |_=>exact zEN C F s ρ st _ d2 v1 v2 K r1 r2
end
end
noncomputable def E7:Bool->Keyed->Array Keyed->Nat->Nat->Nat->StateT SortSt Sem (Option Nat):=sortPriv% PySem.Builtin.gallop
noncomputable def Pz:Array Keyed->Array Keyed->StateT SortSt Sem (Array Keyed):=sortPriv% PySem.Builtin.mergeLo
noncomputable def Q0:Array Keyed->Array Keyed->StateT SortSt Sem (Array Keyed):=sortPriv% PySem.Builtin.mergeHi
structure SX where
 prog:Program
 w:World
 A:Around
 E:Value->Shared->Prop
 s:Shared
noncomputable def SW (X:SX){α:Type}(m:StateT SortSt Sem α)(Q:α->SortSt->Prop)(st:SortSt):Prop:=wpS (model X.prog X.w) X.A X.E X.s m Q st
section
variable {X:SX}
theorem Ar{α:Type}{a:α}{Q:α->SortSt->Prop}{st:SortSt}(h:Q a st):SW X (pure a:StateT SortSt Sem α) Q st:=wpS_pure h
theorem Ak{α β:Type}{m:StateT SortSt Sem α}{f:α->StateT SortSt Sem β}{Q:β->SortSt->Prop}{st:SortSt}
  (h:SW X m (λa st'=>SW X (f a) Q st') st):SW X (m >>= f) Q st:=wpS_bind h
theorem Cw{α:Type}{m:StateT SortSt Sem α}{Q Q':α->SortSt->Prop}{st:SortSt}(h:SW X m Q st)(hq:∀a st',Q a st'->Q' a st'):SW X m Q' st:=wpS_mono h hq
theorem I7{Q:SortSt->SortSt->Prop}{st:SortSt}(h:Q st st):SW X (get:StateT SortSt Sem SortSt) Q st:=wpS_get h
theorem Gk{f:SortSt->SortSt}{Q:PUnit->SortSt->Prop}{st:SortSt}(h:Q ⟨⟩ (f st)):SW X (modify f:StateT SortSt Sem PUnit) Q st:=wpS_modify h
theorem zK5{st':SortSt}{Q:PUnit->SortSt->Prop}{st:SortSt}(h:Q ⟨⟩ st'):SW X (set st':StateT SortSt Sem PUnit) Q st:=by
 unfold SW wpS;rw[StateT.run_set];exact lO1 ⟨rfl,h⟩
theorem Jw{Q:Unit->SortSt->Prop}{st:SortSt}(h:Q () st):SW X (liftM (rule n):StateT SortSt Sem Unit) Q st:=wpS_lift (wpAny_rule ⟨rfl,h⟩)
theorem Km{β:Type}(f:Nat->β->StateT SortSt Sem (ForInStep β))(I:List Nat->β->SortSt->Prop)(Q:β->SortSt->Prop)
  (hstep:∀x rest b st,I (x::rest) b st->SW X (f x b) (λr st'=>match r with|.done b'=>Q b' st'|.yield b'=>I rest b' st') st)
  (hend:∀b st,I [] b st->Q b st):∀(l:List Nat) (b:β) (st:SortSt),I l b st->SW X (forIn l b f) Q st
 |[],b,st,h=>by rw[List.forIn_nil];exact Ar (hend _ _ h)
 |x::rest,b,st,h=>by
  rw[lJ3];refine Ak (Cw (hstep x rest b st h) λr st' h'=>?_)
  cases r with
  |done b'=>exact Ar h'
  |yield b'=>exact Km f I Q hstep hend rest b' st' h'
theorem E0{β:Type}{a b:Nat}{f:Nat->β->StateT SortSt Sem (ForInStep β)}(I:Nat->β->SortSt->Prop){Q:β->SortSt->Prop}{c:β}{st:SortSt}
  (h:I a c st) (hab:a<=b) (hstep:∀i c st,a<=i->i<b->I i c st->SW X (f i c) (λr st'=>match r with|.done c'=>Q c' st'|.yield c'=>I (i+1) c' st') st)
  (hend:∀c st,I b c st->Q c st):SW X (forIn [a:b] c f) Q st:=by
 simp only[Std.Legacy.Range.forIn_eq_forIn_range'];have hsz:([a:b]:Std.Legacy.Range).size=b - a:=by simp[Std.Legacy.Range.size]
 show SW X (forIn (List.range' a ([a:b]:Std.Legacy.Range).size 1) c f) Q st
 rw[hsz];refine Km f (λl c st=>∃i,a<=i/\i<=b/\l=List.range' i (b - i) 1/\I i c st) Q ?_ ?_ _ c st ⟨a,lN4 _,hab,rfl,h⟩
 ·rintro x rest c st ⟨i,hai,hib,hl,hI⟩
  have hlt:i<b:=by
   rcases lM8 i b with h'|h'
   ·exact h'
   ·rw[show b - i=0 by exact Du (λZ=>An [_] [Ae x0 (.n 0),Ac (.n 0) x0] rT Z (lq5 _)) (λZ=>An [_,_,_] [Ae (.n 0) x0,Ac x1 x2,eq1 (.a x0 x2) x1] rT Z h' (Aq (hib)))]at hl;simp at hl
  obtain⟨n,hn⟩:∃n,b - i=n+1:=⟨b - i - 1,by exact Du (λZ=>An [_,_] [Ae x0 (.a x1 (.n 1)),eq1 (.a x1 (.n 1)) x0] rT Z (Aq (Ck (Ac (.n 1) x0) [Ae x2 x1,Ac x1 (.a x0 x2)] rT hlt (Ao _ _)))) (λZ=>An [_,_] [Ae (.a x1 (.n 1)) x0,Ac x0 (.a x1 (.n 1))] rT Z (Ao _ _))⟩
  rw[hn,List.range'_succ]at hl;obtain⟨rfl,rfl⟩:=List.cons.inj hl;refine Cw (hstep x c st hai hlt hI) λr st' h'=>?_
  cases r with
  |done c'=>exact h'
  |yield c'=>exact⟨x+1,Nat.le_add_right_of_le hai,hlt,by congr 1;exact Du (λZ=>An [_,_,_,_,_] [Ae x0 x1,eq1 x2 (.a x0 (.n 1)),Ac x3 (.a x2 x4),eq1 (.a x1 (.a x4 (.n 1))) x3] rT Z hn (Ao _ _) (Aq (hlt))) (λZ=>An [_,_,_,_,_] [Ae x1 x0,Cz x2 (.a x0 (.n 1)),Ac x3 (.a x1 (.a x4 (.n 1))),eq1 (.a x2 x4) x3] rT Z hn (Ao _ _) (Aq (hib))),h'⟩
 ·intro c st h2z;apply yo;intro _ k0
  obtain⟨i,hai,hib,hl,hI⟩:=h2z;apply k0
  have:i=b:=by
   rcases lM8 i b with h'|h'
   ·obtain⟨n,hn⟩:∃n,b - i=n+1:=⟨b - i - 1,by exact Du (λZ=>An [_,_] [Ae x0 (.a x1 (.n 1)),eq1 (.a x1 (.n 1)) x0] rT Z (Aq (Ck (Ac (.n 1) x0) [Ae x2 x1,Ac x1 (.a x0 x2)] rT h' (Ao _ _)))) (λZ=>An [_,_] [Ae (.a x1 (.n 1)) x0,Ac x0 (.a x1 (.n 1))] rT Z (Ao _ _))⟩
    rw[hn,List.range'_succ]at hl;simp at hl
   ·exact Du (λZ=>An [_,_] [Ae x1 x0,Ac x0 x1] rT Z h') (λZ=>An [_,_] [Ae x0 x1,Ac x1 x0] rT Z hib)
  subst this;exact hend _ _ hI
theorem C9{arr:Array Keyed}{i:Nat}{p:Keyed}{Q:Keyed->SortSt->Prop}{st:SortSt}(e:arr[i]? =some p)(h:Q p st):SW X (elem' arr i) Q st:=by
 rw[elem'_eq,e];exact Ar h
noncomputable def Qj (X:SX)(k:Keyed->Int)(κ:SortKind)(S:Keyed->Prop):Prop:=
 ∀x y,S x->S y->∀(st:SortSt) (Q:Option Bool->SortSt->Prop),kindOf st=κ->Q (some (decide (k x<k y))) st->SW X (lt' x y) Q st
variable {k:Keyed->Int}{κ:SortKind}{S:Keyed->Prop}
theorem zBQ(H:Qj X k κ S){left:Bool}{key p:Keyed}{arr:Array Keyed}{i:Nat}{st:SortSt}{Q:Option Bool->SortSt->Prop}(hk:kindOf st=κ)(hkey:S key)(e:arr[i]? =some p)(hp:S p)
  (h:Q (some (if left=true then decide (k p<k key)else !decide (k key<k p))) st):
  SW X (do let x ←elem' arr i;if left=true then lt' x key else return (←lt' key x).map (!·)) Q st:=by
 refine Ak (C9 e ?_)
 cases left with
 |true=>exact H p key hp hkey st Q hk h
 |false=>exact Ak (H key p hkey hp st _ hk (Ar h))
theorem B7{α:Type}{c:Prop}[Decidable c]{m1 m2:StateT SortSt Sem α}{Q:α->SortSt->Prop}{st:SortSt}(h1:c->SW X m1 Q st)(h2:¬c->SW X m2 Q st):SW X (if c then m1 else m2) Q st:=by
 by_cases h:c
 ·rw[lO6 h];exact h1 h
 ·rw[lO5 h];exact h2 h
noncomputable def zEU (left:Bool)(key:Keyed)(arr:Array Keyed)(i:Nat):StateT SortSt Sem (Option Bool):=do let x ←elem' arr i;if left=true then lt' x key else return (←lt' key x).map (!·)
noncomputable abbrev Qv:=Option (Option Nat)×Nat×Nat
noncomputable def zMk (left:Bool)(key:Keyed)(arr:Array Keyed)(base:Nat)(c:Qv):StateT SortSt Sem (ForInStep Qv):=
 if c.2.1≥c.2.2 then pure (.done (none,c.2.1,c.2.2))
 else do
  match ←zEU left key arr (base+(c.2.1+(c.2.2 - c.2.1) / 2))with
  |some more=>if more=true then pure (.yield (none,c.2.1+(c.2.2 - c.2.1) / 2+1,c.2.2))else pure (.yield (none,c.2.1,c.2.1+(c.2.2 - c.2.1) / 2))
  |_=>pure (.done (some none,c.2.1,c.2.2))
noncomputable def zOc (left:Bool)(key:Keyed)(arr:Array Keyed)(base hint m:Nat)(c:Qv):StateT SortSt Sem (ForInStep Qv):=
 if c.2.2≥m then pure (.done (none,c.2.1,c.2.2))
 else do
  match ←zEU left key arr (base+(hint+c.2.2))with
  |some more=>if(!more)=true then pure (.done (none,c.2.1,c.2.2))else pure (.yield (none,c.2.2,2*c.2.2+1))
  |_=>pure (.done (some none,c.2.1,c.2.2))
noncomputable def zOU (left:Bool)(key:Keyed)(arr:Array Keyed)(base hint m:Nat)(c:Qv):StateT SortSt Sem (ForInStep Qv):=
 if c.2.2≥m then pure (.done (none,c.2.1,c.2.2))
 else do
  match ←zEU left key arr (base+(hint - c.2.2))with
  |some found=>if found=true then pure (.done (none,c.2.1,c.2.2))else pure (.yield (none,c.2.2,2*c.2.2+1))
  |_=>pure (.done (some none,c.2.1,c.2.2))
structure zMW (X:SX)(left:Bool)(key:Keyed)(arr:Array Keyed)(base n:Nat)(st:SortSt)(B:Nat->Bool):Prop where
 ask:∀(i:Nat) (Q:Option Bool->SortSt->Prop),i<n->Q (some (B i)) st->SW X (zEU left key arr (base+i)) Q st
 anti:∀i j,i<=j->j<n->B j=true->B i=true
 anti':∀i j,i<=j->j<n->B i=false->B j=false
section
variable {left:Bool}{key:Keyed}{arr:Array Keyed}{base n:Nat}{st:SortSt}{B:Nat->Bool}
noncomputable def zI2 (n:Nat)(B:Nat->Bool)(c:Qv):Prop:=c.1=none/\c.2.1<=c.2.2/\c.2.2<=n/\(∀i,i<c.2.1->B i=true)/\(∀i,c.2.2<=i->i<n->B i=false)
theorem zK7(h:l<r):l<=l+(r - l) / 2/\l+(r - l) / 2<r:=by exact⟨Cp (Ac x0 (.a x0 x1)) [Ac (.n 0) x1] rT (lq5 _),Cd (Zx 2 (.a x0 x2) x1) [Ae x0 x1,Ac (.m 2 x2) x3,eq1 (.a x3 x0) x1] rT h (N4 _ _) (Aq (lM6 h))⟩
theorem zMX(h:l<=m)(hm:r - l<=n - x):r - (m+1)<=n - (x+1):=lM7 (Nat.sub_le_sub_left (lI6 h) r) (lD8 hm 1)
theorem zMT(h:m<r)(hm:r - l<=n - x):m - l<=n - (x+1):=by
 refine lM7 (lD8 (Nat.le_pred_of_lt h) l) ?_
 show r - 1 - l<=_
 rw[Nat.sub_right_comm];exact lD8 hm 1
theorem zPI(h2:l<o)(h3:hint+l<n):hint+l+1<=hint+min o (n - hint):=lE4 (Nat.le_min.mpr ⟨h2,Nat.le_sub_of_add_le (by rw[Nat.add_comm];exact h3)⟩) hint
theorem zPD(h:hint<n):hint+min o (n - hint)<=n:=lM7 (lE4 (Nat.min_le_right _ _) _) (lM5 (lE5 (lM6 h)))
theorem zOm(h:hint<n)(hi:hint+min o (n - hint)<=i)(hn:i<n):hint+o<=i:=by
 rcases Nat.le_total o (n - hint)with z|z
 ·rw[lJ8 z]at hi;exact hi
 ·rw[Nat.min_eq_right z,lE5 (lM6 h)]at hi;exact absurd hn (lN7.mpr hi)
theorem zPH(h2:l<o)(h3:l<=hint):hint+1 - min o (hint+1)<=hint - l:=by
 rcases Nat.le_total o (hint+1)with z|z
 ·rw[lJ8 z];have:=Nat.sub_le_sub_left (Nat.succ_le_of_lt h2) (hint+1);rwa [Nat.succ_eq_add_one,Nat.add_sub_add_right]at this
 ·rw[Nat.min_eq_right z,lN1];exact lq5 _
theorem zO8(hi:i<hint+1 - min o (hint+1)):o<=hint/\i<=hint - o:=by
 rcases Nat.le_total o (hint+1)with h|h
 ·rw[lJ8 h]at hi;have h1:o<=hint:=lG8 (Nat.lt_of_sub_pos (lF3 (lq5 _) hi))
  simp only[Nat.succ_sub h1]at hi;exact⟨h1,lG8 hi⟩
 ·rw[Nat.min_eq_right h,lN1]at hi;exact absurd hi (lJ9 _)
theorem zL6(V:zMW X left key arr base n st B){l r:Nat}(h:zI2 n B (none,l,r)){Q:Qv->SortSt->Prop}(hQ:∀c,zI2 n B c->c.2.1=c.2.2->Q c st):SW X (forIn [0:n] ((none,l,r):Qv) λ_ c=>zMk left key arr base c) Q st:=by
 refine E0 (I:=λx (c:Qv) st'=>st'=st/\zI2 n B c/\c.2.2 - c.2.1<=n - x) ⟨rfl,h,by have h2:r<=n:=h.2.2.1;show r - l<=n - 0;exact lM7 (Eb _ _) h2⟩ (lq5 _) (λx c st' _ hx h=>?_) λc st' h=>?_
 ·apply yo;intro _ k0
  obtain⟨rfl,⟨h1,h2,h3,h4,h5⟩,hm⟩:=h;apply k0
  refine B7 (λg=>Ar (hQ _ ⟨rfl,h2,h3,h4,h5⟩ (lJ7 h2 g))) λg=>?_
  obtain⟨m1,m2⟩:=zK7 (Nat.lt_of_not_le g);refine Ak (V.ask _ _ (lF5 m2 h3) ?_)
  cases hb:B (c.2.1+(c.2.2 - c.2.1) / 2)with
  |true=>exact Ar ⟨rfl,⟨rfl,m2,h3,λi hi=>V.anti i _ (lG8 hi) (lF5 m2 h3) hb,h5⟩,zMX m1 hm⟩
  |false=>exact Ar ⟨rfl,⟨rfl,m1,lM7 (lM6 m2) h3,h4,λi hi hin=>V.anti' _ i hi hin hb⟩,zMT m2 hm⟩
 ·obtain⟨rfl,h,hm⟩:=h;exact hQ _ h (lJ7 h.2.1 (by exact Mr (Ac x0 x1) [Ac x2 x3,Ac x0 (.a x2 x1),eq1 (.a x3 x4) x4] rT hm (Ao _ _) (Aq (lN4 _))))
theorem zM2(V:zMW X left key arr base n st B){hint:Nat}(hh:hint<n)(hb:B hint=true){Q:Qv->SortSt->Prop}
  (hQ:∀c:Qv,c.1=none->c.2.1<c.2.2->hint+c.2.1<n->B (hint+c.2.1)=true->(hint+c.2.2<n->B (hint+c.2.2)=false)->Q c st):SW X (forIn [0:n] ((none,0,1):Qv) λ_ c=>zOc left key arr base hint (n - hint) c) Q st:=by
 refine E0 (I:=λx (c:Qv) st'=>st'=st/\c.1=none/\c.2.1<c.2.2/\x<c.2.2/\hint+c.2.1<n/\B (hint+c.2.1)=true) ⟨rfl,rfl,lK0,lK0,hh,hb⟩ (lq5 _) (λx c st' _ hx h=>?_) λc st' h=>?_
 ·obtain⟨rfl,h1,h2,h3,h4,h5⟩:=h;refine B7 (λg=>Ar (hQ _ rfl h2 h4 h5 λz=>by have:hint+c.2.2<n:=z;exact False.elim (An [_,_,_,_] [Ac x1 x0,Ae (.a x2 x0) x3,Ac x3 (.a x1 x2)] rT g z (Ao _ _)))) λg=>Ak (V.ask _ _ (by exact Cd (Ae (.a x0 x2) x1) [Ae x2 x3,eq1 (.a x3 x0) x1] rT (Nat.not_le.mp g) (Aq (lM6 hh))) ?_)
  cases hb2:B (hint+c.2.2)with
  |true=>exact Ar ⟨rfl,rfl,by dsimp only;exact Cp (Ae x0 (.a (.m 2 x0) (.n 1))) [Ae x1 x0,Ac (.n 0) x1] rT h3 (lq5 _),by dsimp only;exact Cp (Ae (.a x0 (.n 1)) (.a (.m 2 x1) (.n 1))) [Zx 2 x0 x1,Ac (.n 0) x0] rT h3 (lq5 _),by dsimp only;exact Cd (Ae (.a x0 x2) x1) [Ae x2 x3,eq1 (.a x3 x0) x1] rT (Nat.not_le.mp g) (Aq (lM6 hh)),hb2⟩
  |false=>exact Ar (hQ _ rfl h2 h4 h5 λ_=>hb2)
 ·apply yo;intro _ k0
  obtain⟨rfl,h1,h2,h3,h4,h5⟩:=h;apply k0
  exact hQ _ h1 h2 h4 h5 λz=>by exact False.elim (An [_,_,_] [Ae x0 x1,Ae (.a x2 x1) x0,Ac (.n 0) x2] rT h3 z (lq5 _))
theorem zMs(V:zMW X left key arr base n st B){hint:Nat}(hh:hint<n)(hb:B hint=false){Q:Qv->SortSt->Prop}
  (hQ:∀c:Qv,c.1=none->c.2.1<c.2.2->c.2.1<=hint->B (hint - c.2.1)=false->(c.2.2<=hint->B (hint - c.2.2)=true)->Q c st):SW X (forIn [0:n] ((none,0,1):Qv) λ_ c=>zOU left key arr base hint (hint+1) c) Q st:=by
 refine E0 (I:=λx (c:Qv) st'=>st'=st/\c.1=none/\c.2.1<c.2.2/\x<c.2.2/\c.2.1<=hint/\B (hint - c.2.1)=false) ⟨rfl,rfl,lK0,lK0,lq5 _,hb⟩ (lq5 _) (λx c st' _ hx h=>?_) λc st' h=>?_
 ·obtain⟨rfl,h1,h2,h3,h4,h5⟩:=h;refine B7 (λg=>Ar (hQ _ rfl h2 h4 h5 λz=>absurd z (Nat.not_le_of_lt g))) λg=>Ak (V.ask _ _ (lF3 (Nat.sub_le _ _) hh) ?_)
  cases hb2:B (hint - c.2.2)with
  |true=>exact Ar (hQ _ rfl h2 h4 h5 λ_=>hb2)
  |false=>exact Ar ⟨rfl,rfl,by dsimp only;exact Cp (Ae x0 (.a (.m 2 x0) (.n 1))) [Ae x1 x0,Ac (.n 0) x1] rT h3 (lq5 _),by dsimp only;exact Cp (Ae (.a x0 (.n 1)) (.a (.m 2 x1) (.n 1))) [Zx 2 x0 x1,Ac (.n 0) x0] rT h3 (lq5 _),lG8 (Nat.lt_of_not_le g),hb2⟩
 ·apply yo;intro _ k0
  obtain⟨rfl,h1,h2,h3,h4,h5⟩:=h;apply k0
  exact hQ _ h1 h2 h4 h5 λz=>by exact False.elim (An [_,_,_] [Ae x0 x1,Ae x1 x2,Ac x2 x0] rT hh h3 z)
end
noncomputable def zKC (n:Nat)(left:Bool)(key:Keyed)(arr:Array Keyed)(base lo hi:Nat):StateT SortSt Sem (Option Nat):=do
 let r ←forIn [0:n] ((none,lo,hi):Qv) λ_ c=>zMk left key arr base c
 match r.1 with
 |some v=>pure v
 |none=>pure (some r.2.2)
theorem zAx(left:Bool)(key:Keyed)(arr:Array Keyed)(base n hint:Nat):E7 left key arr base n hint=(do
  match ←zEU left key arr (base+hint)with
  |some right=>
   if right=true then
    let r ←forIn [0:n] ((none,0,1):Qv) λ_ c=>zOc left key arr base hint (n - hint) c
    match r.1 with
    |some v=>pure v
    |none=>zKC n left key arr base (hint+r.2.1+1) (hint+min r.2.2 (n - hint))
   else
    let r ←forIn [0:n] ((none,0,1):Qv) λ_ c=>zOU left key arr base hint (hint+1) c
    match r.1 with
    |some v=>pure v
    |none=>zKC n left key arr base (hint+1 - min r.2.2 (hint+1)) (hint - r.2.1)
  |_=>pure none):=by
 kernel_rfl
theorem zA3{left:Bool}{key:Keyed}{arr:Array Keyed}{base n:Nat}{st:SortSt}{B:Nat->Bool}(V:zMW X left key arr base n st B){l r:Nat}(h:zI2 n B (none,l,r)){Q:Option Nat->SortSt->Prop}
  (hQ:∀r,r<=n->(∀i,i<r->B i=true)->(∀i,r<=i->i<n->B i=false)->Q (some r) st):SW X (zKC n left key arr base l r) Q st:=by
 refine Ak (zL6 V h λc hc e=>?_)
 apply yo;intro _ k0
 obtain⟨h1,h2,h3,h4,h5⟩:=hc;apply k0
 rw[h1];rw[e]at h4;exact Ar (hQ _ h3 h4 h5)
theorem Gh(H:Qj X k κ S){st:SortSt}{Q:Option Nat->SortSt->Prop}(hk:kindOf st=κ)(hkey:S key)(harr:∀i,i<n->∃p,arr[base+i]? =some p/\S p)(hh:hint<n)(B:Nat->Bool)(hB:∀i,i<n->∀p,arr[base+i]? =some p->(if left=true then decide (k p<k key)else !decide (k key<k p))=B i)(anti:∀i j,i<=j->j<n->B j=true->B i=true)(h:∀r,r<=n->(∀i,i<r->B i=true)->(∀i,r<=i->i<n->B i=false)->Q (some r) st):SW X (E7 left key arr base n hint) Q st:=by
 have V:zMW X left key arr base n st B:=by
  refine⟨λi Q hi q=>?_,anti,λi j hij hj hf=>?_⟩
  ·obtain⟨p,e,hp⟩:=harr i hi;exact zBQ H hk hkey e hp (by rw[hB i hi p e];exact q)
  ·cases e:B j with
   |false=>rfl
   |true=>rw[anti i j hij hj e]at hf;cases hf
 clear hB harr;rw[zAx];refine Ak (V.ask hint _ hh ?_)
 cases hb:B hint with
 |true=>
  refine Ak (zM2 V hh hb λc h1 h2 h3 h4 h5=>?_)
  rw[h1];exact zA3 V ⟨rfl,zPI h2 h3,zPD hh,λi hi=>anti i _ (lG8 hi) h3 h4,λi hi hin=>V.anti' (hint+c.2.2) i (zOm hh hi hin) hin (h5 (lF3 (zOm hh hi hin) hin))⟩ h
 |false=>
  refine Ak (zMs V hh hb λc h1 h2 h3 h4 h5=>?_)
  rw[h1];exact zA3 V ⟨rfl,zPH h2 h3,lM7 (Nat.sub_le _ _) (lM6 hh),λi hi=>anti i (hint - c.2.2) (zO8 hi).2 (lF3 (Nat.sub_le _ _) hh) (h5 (zO8 hi).1),λi hi hin=>V.anti' (hint - c.2.1) i hi hin h4⟩ h
end
section
variable {X:SX}{k:Keyed->Int}{κ:SortKind}{S:Keyed->Prop}
noncomputable def Hk (k:Keyed->Int)(l:List Keyed):Prop:=l.Pairwise (λx y=>k x<=k y)
noncomputable def D7 (k:Keyed->Int)(l m:List Keyed):Prop:=∀x,x∈l->∀y,y∈m->k x<=k y
noncomputable def Fp (st st':SortSt):Prop:=kindOf st'=kindOf st/\arrOf st'=arrOf st/\pendingOf st'=pendingOf st/\failedOf st'=failedOf st
theorem Fp.refl(st:SortSt):Fp st st:=⟨rfl,rfl,rfl,rfl⟩
theorem Fp.trans{a b c:SortSt}(h:Fp a b)(g:Fp b c):Fp a c:=⟨g.1.trans h.1,g.2.1.trans h.2.1,g.2.2.1.trans h.2.2.1,g.2.2.2.trans h.2.2.2⟩
structure MI (k:Keyed->Int)(a b out:List Keyed)(ia ib:Nat):Prop where
 la:ia<=a.length
 lb:ib<=b.length
 perm:out.Perm (a.take ia++b.take ib)
 srt:Hk k out
 sa:Hk k a
 sb:Hk k b
 ba:D7 k out (a.drop ia)
 bb:D7 k out (b.drop ib)
theorem MI.symm(m:MI k a b out ia ib):MI k b a out ib ia:=⟨m.lb,m.la,m.perm.trans lC7,m.srt,m.sb,m.sa,m.bb,m.ba⟩
theorem MI.size(m:MI k a b out ia ib):out.length=ia+ib:=by
 rw[m.perm.length_eq,lq7,lI2,lI2,lJ8 m.la,lJ8 m.lb]
theorem MI.goA(m:MI k a b out ia ib)(n:Nat)(hn:ia+n<=a.length)(hle:D7 k ((a.drop ia).take n) (b.drop ib))(e:out'=out++(a.drop ia).take n):MI k a b out' (ia+n) ib:=by
 subst e;have hsd:Hk k (a.drop ia):=m.sa.sublist (List.drop_sublist _ _)
 have hsp:a.drop ia=(a.drop ia).take n++a.drop (ia+n):=by rw[←List.drop_drop,lC9]
 refine⟨hn,m.lb,?_,?_,m.sa,m.sb,?_,?_⟩
 ·rw[List.take_add];refine(m.perm.append_right _).trans ?_
  simp only[lq8,lq8];exact(lC7).append_left _
 ·refine lD7.mpr ⟨m.srt,hsd.sublist (List.take_sublist _ _),λx hx y hy=>m.ba x hx y (lD6 hy)⟩
 ·intro x hx y hy;rcases lJ6.mp hx with hx|hx
  ·exact m.ba x hx y (by rw[hsp];exact lC6 _ hy)
  ·rw[hsp]at hsd;exact(lD7.mp hsd).2.2 x hx y hy
 ·intro x hx y hy;rcases lJ6.mp hx with hx|hx
  ·exact m.bb x hx y hy
  ·exact hle x hx y hy
theorem MI.goB(m:MI k a b out ia ib)(n:Nat)(hn:ib+n<=b.length)(hle:D7 k ((b.drop ib).take n) (a.drop ia))(e:out'=out++(b.drop ib).take n):MI k a b out' ia (ib+n):=
 (m.symm.goA n hn hle e).symm
noncomputable def F4 (k:Keyed->Int)(a b out:List Keyed):Prop:=out.Perm (a++b)/\Hk k out
theorem MI.endB(m:MI k a b out ia ib)(h:ib=b.length):F4 k a b (out++a.drop ia):=by
 subst h;refine⟨?_,lD7.mpr ⟨m.srt,m.sa.sublist (List.drop_sublist _ _),m.ba⟩⟩
 have:=m.perm.append_right (a.drop ia)
 rw[List.take_length,lq8]at this;refine this.trans ?_
 refine(lC7.append_left _).trans ?_
 rw[←lq8,lC9]
theorem MI.endA(m:MI k a b out ia ib)(h:ia=a.length):F4 k a b (out++b.drop ib):=
 let⟨p,s⟩:=m.symm.endB h
 ⟨p.trans lC7,s⟩
theorem MI.endL(m:MI k a b out ia ib)(h:D7 k (b.drop ib) (a.drop ia)):F4 k a b (out++b.drop ib++a.drop ia):=by
 have m2:=m.goB (b.length - ib) (by have:=m.lb;exact Ck (Ac (.a x0 x2) x1) [eq1 (.a x2 x0) x1] rT (Aq (this))) (by rw[lC0 (by simp)];exact h) rfl
 have:=m2.endB (by have:=m.lb;exact Du (λZ=>An [_,_,_] [Ae (.a x0 x2) x1,Ac x1 (.a x2 x0)] rT Z (Ao _ _)) (λZ=>An [_,_,_] [Ae x1 (.a x0 x2),eq1 (.a x2 x0) x1] rT Z (Aq (this))))
 rwa [lC0 (l:=b.drop ib) (by simp)]at this
theorem Fn{a:List Keyed}{i:Nat}{x:Keyed}(e:a[i]? =some x):(a.drop i).take 1=[x]:=by
 obtain⟨hi,rfl⟩:=lq2 e;rw[lA4 hi];rfl
theorem Ec(h:Hk k a)(e:a[i]? =some x):∀y,y∈a.drop i->k x<=k y:=by
 obtain⟨hi,rfl⟩:=lq2 e;intro y hy;have:=h.sublist (List.drop_sublist i a)
 rw[lA4 hi]at this hy;rcases lL5.mp hy with rfl|hy
 ·exact lN3 _
 ·exact(lF2.mp this).1 y hy
theorem Lc{a:List Keyed}(h:Hk k a){i j:Nat}{x y:Keyed}(hij:i<=j)(e:a[i]? =some x)(e2:a[j]? =some y):k x<=k y:=by
 refine Ec h e y ?_
 obtain⟨hj,rfl⟩:=lq2 e2;refine List.mem_iff_getElem.mpr ⟨j - i,by simp;exact Mr (Ae x0 x1) [Ae x2 x3,Ac x3 (.a x1 x4),eq1 (.a x0 x4) x2] rT hj (Ao _ _) (Aq (hij)),by simp[show i+(j - i)=j by exact Du (λZ=>An [_,_,_] [Ae (.a x0 x2) x1,Ac x1 (.a x2 x0)] rT Z (Ao _ _)) (λZ=>An [_,_,_] [Ae x1 (.a x0 x2),eq1 (.a x2 x0) x1] rT Z (Aq (hij)))]⟩
theorem Sb:D7 k [] l:=λ_ h=>absurd h lI3
theorem D7.one(h:∀y,y∈l->k x<=k y):D7 k [x] l:=λz hz y hy=>by rw[lq0 hz];exact h y hy
theorem Kb{st:SortSt}{Q:PUnit->SortSt->Prop}(h:∀st',Fp st st'->Q ⟨⟩ st'):SW X (modify λs=>SortSt.mk' (kindOf s) (arrOf s) (pendingOf s) g (failedOf s):StateT SortSt Sem PUnit) Q st:=
 Gk (h _ ⟨rfl,rfl,rfl,rfl⟩)
theorem Aw{a:Array Keyed}{i:Nat}{p:Keyed}(e:a.toList[i]? =some p):a[i]? =some p:=by simpa using e
theorem Bi{a:Array Keyed}{i:Nat}(h:i<a.size):∃p,a.toList[i]? =some p:=⟨a[i],by simp[h]⟩
theorem Df{l:List Keyed}{i:Nat}{p:Keyed}(e:l[i]? =some p):p∈l:=by
 obtain⟨h,rfl⟩:=lq2 e;exact List.getElem_mem h
theorem I8(a:Array Keyed)(i:Nat):(a.extract i a.size).toList=a.toList.drop i:=by
 rw[Array.toList_extract,lA5,lC0];simp
theorem V7(a:Array Keyed):(a.extract a.size a.size).toList=[]:=by simp
theorem Tm{l:List Keyed}{i n:Nat}{x:Keyed}(h:x∈(l.drop i).take n):∃j,j<n/\l[i+j]? =some x:=by
 obtain⟨j,hj,e⟩:=lE2 h;simp only[lI2,lI1]at hj;refine⟨j,by lia,?_⟩
 rw[List.getElem_take,List.getElem_drop]at e;rw[←e];exact lA9 _
theorem Ot{l:List Keyed}{i:Nat}{x:Keyed}(h:x∈l.drop i):∃j,l[i+j]? =some x:=by
 obtain⟨j,hj,e⟩:=lE2 h;rw[List.getElem_drop]at e;exact⟨j,by rw[←e];exact lA9 _⟩
theorem Zq(a:Array Keyed)(i n:Nat):(a.extract i (i+n)).toList=(a.toList.drop i).take n:=by
 simp only[Array.toList_extract,lA5];congr 1
 exact Du (λZ=>An [_,_,_] [Ae x0 x1,Ac (.a x2 x1) (.a x0 x2)] rT Z (Ao _ _)) (λZ=>An [_,_,_] [Ae x1 x0,eq1 (.a x0 x2) (.a x2 x1)] rT Z (Aq (Cp (Ac x0 (.a x0 x1)) [Ac (.n 0) x1] rT (lq5 _))))
structure Zu (X:SX)(k:Keyed->Int)(κ:SortKind)(S:Keyed->Prop)(a b:Array Keyed)(st:SortSt)(Q:Array Keyed->SortSt->Prop):Prop where
 H:Qj X k κ S
 hk:kindOf st=κ
 hSa:∀p,p∈a.toList->S p
 hSb:∀p,p∈b.toList->S p
 sa:Hk k a.toList
 sb:Hk k b.toList
 lastA:∀(out:Array Keyed) (ia ib:Nat) (st':SortSt),MI k a.toList b.toList out.toList ia ib->ia+1=a.size->Fp st st'->Q (out++b.extract ib b.size++a.extract ia a.size) st'
 doneB:∀(out:Array Keyed) (ia ib:Nat) (st':SortSt),MI k a.toList b.toList out.toList ia ib->ib=b.size->Fp st st'->Q (out++a.extract ia a.size++b.extract ib b.size) st'
 doneA:∀(out:Array Keyed) (ia ib:Nat) (st':SortSt),MI k a.toList b.toList out.toList ia ib->ia=a.size->Fp st st'->Q (out++a.extract ia a.size++b.extract ib b.size) st'
structure J6 (k:Keyed->Int)(a b:Array Keyed)(st:SortSt)(x:Nat)(out:Array Keyed)(ia ib:Nat)(st':SortSt):Prop where
 s:Fp st st'
 m:MI k a.toList b.toList out.toList ia ib
 ha:ia+1<a.size
 hb:ib<b.size
 hx:x<out.size
theorem J6.step{st st2 st3:SortSt}(m:J6 k a b st x out ia ib st2)(s:Fp st2 st3):J6 k a b st x out ia ib st3:=⟨m.s.trans s,m.m,m.ha,m.hb,m.hx⟩
theorem J6.pushB{a b:Array Keyed}{st st2:SortSt}{x ia ib:Nat}{out:Array Keyed}{pb:Keyed}(m:J6 k a b st x out ia ib st2)(e:b.toList[ib]? =some pb)(h:∀y,y∈a.toList.drop ia->k pb<=k y):MI k a.toList b.toList (out.push pb).toList ia (ib+1):=by
 have hb:=m.hb;exact m.m.goB 1 (by rw[lD9];exact hb) (by rw[Fn e];exact D7.one h) (by rw[Fn e,lG0])
theorem J6.pushA{a b:Array Keyed}{st st2:SortSt}{x ia ib:Nat}{out:Array Keyed}{pa:Keyed}(m:J6 k a b st x out ia ib st2)(e:a.toList[ia]? =some pa)(h:∀y,y∈b.toList.drop ib->k pa<=k y):MI k a.toList b.toList (out.push pa).toList (ia+1) ib:=by
 have ha:=m.ha;exact m.m.goA 1 (by rw[lD9];exact lM6 ha) (by rw[Fn e];exact D7.one h) (by rw[Fn e,lG0])
theorem Hg{x:Nat}{out:Array Keyed}{p:Keyed}(h:x<out.size):x+1<(out.push p).size:=by rw[Array.size_push];exact Cp (Ae (.a x0 (.n 1)) (.a x1 (.n 1))) [Ae x0 x1] rT h
theorem Bh{a b:Nat}(h:(a==b)=true):a=b:=by simpa using h
theorem Ba{a b:Nat}(h:¬(a==b)=true):a≠b:=by simpa using h
theorem Gj(h:a<b)(g:a+1≠b):a+1<b:=by lia
noncomputable abbrev zCD:=Option (Array Keyed)×Array Keyed×Nat×Nat×Nat×Nat×Nat
noncomputable def zO3 (k:Keyed->Int)(a b:Array Keyed)(st:SortSt)(x:Nat)(c:zCD)(st':SortSt):Prop:=c.1=none/\J6 k a b st x c.2.1 c.2.2.1 c.2.2.2.1 st'
noncomputable def zNw (k:Keyed->Int)(a b:Array Keyed)(st:SortSt)(Q:Array Keyed->SortSt->Prop)(x:Nat)(c:zCD)(st':SortSt):Prop:=
 (∃r,c.1=some r/\Q r st')∨(c.1=none/\J6 k a b st x c.2.1 c.2.2.1 c.2.2.2.1 st')
noncomputable def Pi (k:Keyed->Int)(a b:Array Keyed)(st:SortSt)(Q:Array Keyed->SortSt->Prop)(x:Nat)(r:ForInStep zCD)(st':SortSt):Prop:=
 match r with|.done c'=>zNw k a b st Q x c' st'|.yield c'=>zO3 k a b st x c' st'
theorem Pi.ret{st:SortSt}{Q:Array Keyed->SortSt->Prop}{st':SortSt}(h:Q r st'):Pi k a b st Q x (.done (some r,out,ia,ib,mg,ac,bc)) st':=.inl ⟨_,rfl,h⟩
theorem Pi.brk{st:SortSt}{Q:Array Keyed->SortSt->Prop}{st':SortSt}(h:J6 k a b st x out ia ib st'):Pi k a b st Q x (.done (none,out,ia,ib,mg,ac,bc)) st':=.inr ⟨rfl,h⟩
theorem Pi.go{st:SortSt}{Q:Array Keyed->SortSt->Prop}{st':SortSt}(h:J6 k a b st x out ia ib st'):Pi k a b st Q x (.yield (none,out,ia,ib,mg,ac,bc)) st':=⟨rfl,h⟩
theorem J6.less{st st':SortSt}(m:J6 k a b st (x+1) out ia ib st'):J6 k a b st x out ia ib st':=⟨m.s,m.m,m.ha,m.hb,lG9 m.hx⟩
theorem Pi.less{st:SortSt}{Q:Array Keyed->SortSt->Prop}{st':SortSt}:∀{r:ForInStep zCD},Pi k a b st Q (x+1) r st'->Pi k a b st Q x r st'
 |.done _,h=>Or.imp id (λh=>⟨h.1,h.2.less⟩) h
 |.yield _,h=>⟨h.1,h.2.less⟩
variable {a b:Array Keyed}{st:SortSt}{Q:Array Keyed->SortSt->Prop}
noncomputable def Zf (a b out:Array Keyed)(ia ib mg ac bc:Nat):StateT SortSt Sem (ForInStep zCD):=do
 let p ←elem' a ia
 if(ia+1+1==a.size)=true then pure (.done (some (out.push p++b.extract ib b.size++a.extract (ia+1) a.size),out.push p,ia+1,ib,mg,ac,bc))
 else if(decide (ac<7)&&decide (bc<7))=true then pure (.done (none,out.push p,ia+1,ib,mg,ac,bc))
 else pure (.yield (none,out.push p,ia+1,ib,mg,ac,bc))
theorem S6(V:Zu X k κ S a b st Q){x ia ib mg ac bc:Nat}{out:Array Keyed}{st2:SortSt}{pa:Keyed}(m:J6 k a b st x out ia ib st2)(epa:a.toList[ia]? =some pa)(hpa:∀y,y∈b.toList.drop ib->k pa<=k y):
  SW X (Zf a b out ia ib mg ac bc) (Pi k a b st Q (x+1)) st2:=by
 have m1:=m.pushA epa hpa;refine Ak (C9 (Aw epa) (B7 (λd=>?_) λd=>?_))
 ·exact Ar (Pi.ret (V.lastA _ _ _ _ m1 (Bh d) m.s))
 ·have m2:J6 k a b st (x+1) (out.push pa) (ia+1) ib st2:=⟨m.s,m1,Gj m.ha (Ba d),m.hb,Hg m.hx⟩
  exact B7 (λ_=>Ar (Pi.brk m2)) λ_=>Ar (Pi.go m2)
noncomputable def zFU (a b out:Array Keyed)(ia ib mg ac r:Nat):StateT SortSt Sem (ForInStep zCD):=
 if r>0 then
  if(ib+r==b.size)=true then pure (.done (some (out++b.extract ib (ib+r)++a.extract ia a.size++b.extract (ib+r) b.size),out++b.extract ib (ib+r),ia,ib+r,mg,ac,r))
  else Zf a b (out++b.extract ib (ib+r)) ia (ib+r) mg ac r
 else Zf a b out ia ib mg ac r
theorem zBY(V:Zu X k κ S a b st Q){x ia ib mg ac r:Nat}{out:Array Keyed}{st2:SortSt}{pa:Keyed}(m:J6 k a b st x out ia ib st2)(epa:a.toList[ia]? =some pa)(hr:r<=b.size - ib)(hlow:D7 k ((b.toList.drop ib).take r) (a.toList.drop ia))(hpa:∀y,y∈b.toList.drop (ib+r)->k pa<=k y):
  SW X (zFU a b out ia ib mg ac r) (Pi k a b st Q (x+1)) st2:=by
 refine B7 (λh0=>?_) λh0=>?_
 ·have hb:=m.hb;have m1:MI k a.toList b.toList (out++b.extract ib (ib+r)).toList ia (ib+r):=m.m.goB r (by rw[lD9];exact Cd (Ac (.a x2 x0) x1) [Ac x0 x3,eq1 (.a x3 x2) x1] rT hr (Aq (lM6 hb))) hlow (by rw[lE0,Zq])
  refine B7 (λd=>?_) λd=>?_
  ·exact Ar (Pi.ret (V.doneB _ _ _ _ m1 (Bh d) m.s))
  ·refine S6 V ⟨m.s,m1,m.ha,lF4 (by exact Cd (Ac (.a x2 x0) x1) [Ac x0 x3,eq1 (.a x3 x2) x1] rT hr (Aq (lM6 hb))) (Ba d),?_⟩ epa hpa
   rw[Array.size_append];exact lF5 m.hx (lI4 _ _)
 ·have:r=0:=by exact Du (λZ=>An [_] [Ae x0 (.n 0),Ac (.n 0) x0] rT Z (lq5 _)) (λZ=>An [_] [Ae (.n 0) x0,Ac x0 (.n 0)] rT Z (lN7.mp h0))
  subst this;exact S6 V m epa hpa
theorem zGW(V:Zu X k κ S a b st Q){ia ib:Nat}{st2:SortSt}{pa:Keyed}{R:Option Nat->SortSt->Prop}(s2:Fp st st2)(epa:a.toList[ia]? =some pa)(hib:ib<b.size)
  (h:∀r,r<=b.size - ib->D7 k ((b.toList.drop ib).take r) (a.toList.drop ia)->(∀y,y∈b.toList.drop (ib+r)->k pa<=k y)->R (some r) st2):SW X (E7 true pa b ib (b.size - ib) 0) R st2:=by
 refine Gh V.H (s2.1.trans V.hk) (V.hSa _ (Df epa)) (λi hi=>?_) (by exact Ck (Ae (.n 0) x0) [Ae x1 x2,Ac x2 (.a x0 x1)] rT hib (Ao _ _)) (λi=>match b.toList[ib+i]? with|some p=>decide (k p<k pa)|none=>false) (λi hi p e=>?_) (λi j hij hj hbj=>?_) λr2 hr2 hlow2 hhigh2=>h r2 hr2 (λu hu v hv=>?_) λy hy=>?_
 ·obtain⟨p,e⟩:=Bi (a:=b) (i:=ib+i) (by exact Cd (Ae (.a x0 x2) x1) [Ae x2 x3,eq1 (.a x3 x0) x1] rT hi (Aq (lM6 hib)))
  exact⟨p,Aw e,V.hSb _ (Df e)⟩
 ·have e':b.toList[ib+i]? =some p:=by simpa using e
  rw[lO6 rfl,e']
 ·apply yo;intro _ k0
  obtain⟨p,e⟩:=Bi (a:=b) (i:=ib+i) (by exact Mr (Ae (.a x0 x2) x1) [Ac x2 x3,Ae x3 x4,eq1 (.a x4 x0) x1] rT hij hj (Aq (lM6 hib)))
  obtain⟨q,e'⟩:=Bi (a:=b) (i:=ib+j) (by exact Cd (Ae (.a x0 x2) x1) [Ae x2 x3,eq1 (.a x3 x0) x1] rT hj (Aq (lM6 hib)))
  apply k0
  rw[e']at hbj;rw[e];exact lL1 (lE8 (Lc V.sb (lE4 hij _) e e') (lH3 hbj))
 ·obtain⟨i,hi,e⟩:=Tm hu;have:=hlow2 i hi
  rw[e]at this;exact lM2 (lM1 (lH3 this)) (Ec V.sa epa v hv)
 ·apply yo;intro _ k0
  obtain⟨i,e⟩:=Ot hy;obtain⟨hi,_⟩:=lq2 e;apply k0
  simp only[lD9]at hi;have:=hhigh2 (r2+i) (lI4 _ _) (by exact Mr (Ae (.a x0 x2) x1) [Ae (.a (.a x3 x0) x2) x4,Ac x4 (.a x1 x3)] rT hi (Ao _ _))
  rw[←lL6,e]at this;exact lN6.mp (lF8 this)
theorem zGj(V:Zu X k κ S a b st Q){ia ib:Nat}{st2:SortSt}{pb:Keyed}{R:Option Nat->SortSt->Prop}(s2:Fp st st2)(epb:b.toList[ib]? =some pb)(hia:ia<a.size)
  (h:∀r,r<=a.size - ia->D7 k ((a.toList.drop ia).take r) (b.toList.drop ib)->(∀y,y∈a.toList.drop (ia+r)->k pb<=k y)->R (some r) st2):SW X (E7 false pb a ia (a.size - ia) 0) R st2:=by
 refine Gh V.H (s2.1.trans V.hk) (V.hSb _ (Df epb)) (λi hi=>?_) (by exact Ck (Ae (.n 0) x0) [Ae x1 x2,Ac x2 (.a x0 x1)] rT hia (Ao _ _)) (λi=>match a.toList[ia+i]? with|some p=>!decide (k pb<k p)|none=>false) (λi hi p e=>?_) (λi j hij hj hbj=>?_) λr hr hlow1 hhigh1=>h r hr (λu hu v hv=>?_) λy hy=>?_
 ·obtain⟨p,e⟩:=Bi (a:=a) (i:=ia+i) (by exact Cd (Ae (.a x0 x2) x1) [Ae x2 x3,eq1 (.a x3 x0) x1] rT hi (Aq (lM6 hia)))
  exact⟨p,Aw e,V.hSa _ (Df e)⟩
 ·have e':a.toList[ia+i]? =some p:=by simpa using e
  rw[lO5 (λh=>Bool.noConfusion h),e']
 ·apply yo;intro _ k0
  obtain⟨p,e⟩:=Bi (a:=a) (i:=ia+i) (by exact Mr (Ae (.a x0 x2) x1) [Ac x2 x3,Ae x3 x4,eq1 (.a x4 x0) x1] rT hij hj (Aq (lM6 hia)))
  obtain⟨q,e'⟩:=Bi (a:=a) (i:=ia+j) (by exact Cd (Ae (.a x0 x2) x1) [Ae x2 x3,eq1 (.a x3 x0) x1] rT hj (Aq (lM6 hia)))
  apply k0
  rw[e']at hbj;rw[e];have:=Lc V.sa (lE4 hij _) e e'
  have h2:=lF8 (lG1 _ |>.mp hbj)
  exact(lG1 _).mpr (decide_eq_false (by exactλZ=>Az [_,_,_] [Ae x1 x0,Ac x0 x2,Ac x2 x1] rT Z this (lN6.mp h2)))
 ·obtain⟨i,hi,e⟩:=Tm hu;have:=hlow1 i hi
  rw[e]at this;exact lM2 (lN6.mp (lF8 ((lG1 _).mp this))) (Ec V.sb epb v hv)
 ·apply yo;intro _ k0
  obtain⟨i,e⟩:=Ot hy;obtain⟨hi,_⟩:=lq2 e;apply k0
  simp only[lD9]at hi;have:=hhigh1 (r+i) (lI4 _ _) (by exact Mr (Ae (.a x0 x2) x1) [Ae (.a (.a x3 x0) x2) x4,Ac x4 (.a x1 x3)] rT hi (Ao _ _))
  rw[←lL6,e]at this;exact lM1 (lH3 ((Bool.not_eq_false' _).mp this))
noncomputable def zFf (a b out:Array Keyed)(ia ib mg ac bc:Nat):StateT SortSt Sem (ForInStep zCD):=do
 let p ←elem' b ib
 if(ib+1==b.size)=true then pure (.done (some (out.push p++a.extract ia a.size++b.extract (ib+1) b.size),out.push p,ia,ib+1,mg,ac,bc))
 else
  let q ←elem' a ia
  match ←E7 true q b (ib+1) (b.size - (ib+1)) 0 with
  |some r=>zFU a b (out.push p) ia (ib+1) mg ac r
  |_=>pure (.done (some (out.push p++a.extract ia a.size++b.extract (ib+1) b.size),out.push p,ia,ib+1,mg,ac,bc))
theorem Ug(V:Zu X k κ S a b st Q){x ia ib mg ac bc:Nat}{out:Array Keyed}{st2:SortSt}{pb:Keyed}(m:J6 k a b st x out ia ib st2)(epb:b.toList[ib]? =some pb)(hpb:∀y,y∈a.toList.drop ia->k pb<=k y):
  SW X (zFf a b out ia ib mg ac bc) (Pi k a b st Q x) st2:=by
 have m1:=m.pushB epb hpb;refine Ak (C9 (Aw epb) (B7 (λd=>?_) λd=>?_))
 ·exact Ar (Pi.ret (V.doneB _ _ _ _ m1 (Bh d) m.s))
 ·have hib:ib+1<b.size:=Gj m.hb (Ba d)
  have m2:J6 k a b st x (out.push pb) ia (ib+1) st2:=⟨m.s,m1,m.ha,hib,lG9 (Hg m.hx)⟩
  obtain⟨pa,epa⟩:=Bi (a:=a) (i:=ia) (lG9 m.ha)
  refine Ak (C9 (Aw epa) (Ak (zGW V m.s epa hib λr hr h1 h2=>?_)))
  exact Cw (zBY V m2 epa hr h1 h2) λr st' q=>Pi.less q
noncomputable def zIg (a b out:Array Keyed)(ia ib mg bc r:Nat):StateT SortSt Sem (ForInStep zCD):=
 if r>0 then
  if(ia+r+1==a.size)=true then pure (.done (some (out++a.extract ia (ia+r)++b.extract ib b.size++a.extract (ia+r) a.size),out++a.extract ia (ia+r),ia+r,ib,mg,r,bc))
  else if(ia+r==a.size)=true then pure (.done (some (out++a.extract ia (ia+r)++a.extract (ia+r) a.size++b.extract ib b.size),out++a.extract ia (ia+r),ia+r,ib,mg,r,bc))
  else zFf a b (out++a.extract ia (ia+r)) (ia+r) ib mg r bc
 else zFf a b out ia ib mg r bc
theorem zFZ(V:Zu X k κ S a b st Q){x ia ib mg bc r:Nat}{out:Array Keyed}{st2:SortSt}{pb:Keyed}(m:J6 k a b st x out ia ib st2)(epb:b.toList[ib]? =some pb)(hr:r<=a.size - ia)(hlow:D7 k ((a.toList.drop ia).take r) (b.toList.drop ib))(hpb:∀y,y∈a.toList.drop (ia+r)->k pb<=k y):
  SW X (zIg a b out ia ib mg bc r) (Pi k a b st Q x) st2:=by
 refine B7 (λh0=>?_) λh0=>?_
 ·have ha:=m.ha;have m1:MI k a.toList b.toList (out++a.extract ia (ia+r)).toList (ia+r) ib:=m.m.goA r (by rw[lD9];exact Cd (Ac (.a x2 x0) x1) [Ac x0 x3,eq1 (.a x3 x2) x1] rT hr (Aq (Cp (Ac x1 x0) [Ae (.a x1 (.n 1)) x0] rT ha))) hlow (by rw[lE0,Zq])
  refine B7 (λd=>?_) λd=>B7 (λe=>?_) λe=>?_
  ·exact Ar (Pi.ret (V.lastA _ _ _ _ m1 (Bh d) m.s))
  ·exact Ar (Pi.ret (V.doneA _ _ _ _ m1 (Bh e) m.s))
  ·refine Ug V ⟨m.s,m1,Gj (lF4 (by exact Cd (Ac (.a x2 x0) x1) [Ac x0 x3,eq1 (.a x3 x2) x1] rT hr (Aq (Cp (Ac x1 x0) [Ae (.a x1 (.n 1)) x0] rT ha))) (Ba e)) (Ba d),m.hb,?_⟩ epb hpb
   rw[Array.size_append];exact lF5 m.hx (lI4 _ _)
 ·have:r=0:=by exact Du (λZ=>An [_] [Ae x0 (.n 0),Ac (.n 0) x0] rT Z (lq5 _)) (λZ=>An [_] [Ae (.n 0) x0,Ac x0 (.n 0)] rT Z (lN7.mp h0))
  subst this;exact Ug V m epb hpb
noncomputable def Xo (a b out:Array Keyed)(ia ib mg ac bc:Nat):StateT SortSt Sem (ForInStep zCD):=do
 modify λs=>SortSt.mk' (kindOf s) (arrOf s) (pendingOf s) mg (failedOf s)
 let p ←elem' b ib
 match ←E7 false p a ia (a.size - ia) 0 with
 |some r=>zIg a b out ia ib mg bc r
 |_=>pure (.done (some (out++a.extract ia a.size++b.extract ib b.size),out,ia,ib,mg,ac,bc))
theorem Sa(V:Zu X k κ S a b st Q){x ia ib mg ac bc:Nat}{out:Array Keyed}{st2:SortSt}(m:J6 k a b st x out ia ib st2):
  SW X (Xo a b out ia ib mg ac bc) (Pi k a b st Q x) st2:=by
 obtain⟨pb,epb⟩:=Bi (a:=b) (i:=ib) m.hb
 refine Ak (Kb λst3 s23=>?_)
 have m':=m.step s23;exact Ak (C9 (Aw epb) (Ak (zGj V m'.s epb (lG9 m.ha) λr hr h1 h2=>zFZ V m' epb hr h1 h2)))
end
section
variable {X:SX}{k:Keyed->Int}{κ:SortKind}{S:Keyed->Prop}
theorem J6.le{st st':SortSt}(m:J6 k a b st x out ia ib st')(h:y<=x):J6 k a b st y out ia ib st':=⟨m.s,m.m,m.ha,m.hb,lF3 h m.hx⟩
theorem J6.out_lt{st st':SortSt}(m:J6 k a b st x out ia ib st')(h:a.size+b.size<=x):False:=by
 have z:=m.m.size;have h1:=m.ha;have h2:=m.hb;have h3:=m.hx;simp only[lD9]at z;exact An [_,_,_,_,_,_] [Ac (.a x0 x1) x2,eq1 x3 (.a x4 x5),Ae (.a x4 (.n 1)) x0,Ae x5 x1,Ae x2 x3] rT h z h1 h2 h3
noncomputable abbrev zIr:=Option (Array Keyed)×Array Keyed×Nat×Nat×Nat×Nat
noncomputable def zOi (k:Keyed->Int)(a b:Array Keyed)(st:SortSt)(x:Nat)(c:zIr)(st':SortSt):Prop:=c.1=none/\J6 k a b st x c.2.1 c.2.2.1 c.2.2.2.1 st'
noncomputable def zNh (k:Keyed->Int)(a b:Array Keyed)(st:SortSt)(Q:Array Keyed->SortSt->Prop)(x:Nat)(c:zIr)(st':SortSt):Prop:=
 (∃r,c.1=some r/\Q r st')∨(c.1=none/\J6 k a b st x c.2.1 c.2.2.1 c.2.2.2.1 st')
noncomputable def zAn (k:Keyed->Int)(a b:Array Keyed)(st:SortSt)(Q:Array Keyed->SortSt->Prop)(x y:Nat)(r:ForInStep zIr)(st':SortSt):Prop:=
 match r with|.done c'=>zNh k a b st Q x c' st'|.yield c'=>zOi k a b st y c' st'
variable {a b:Array Keyed}{st:SortSt}{Q:Array Keyed->SortSt->Prop}
theorem zAn.ret{st':SortSt}(h:Q r st'):zAn k a b st Q x y (.done (some r,out,ia,ib,ac,bc)) st':=.inl ⟨_,rfl,h⟩
theorem zAn.brk{st':SortSt}(h:J6 k a b st x out ia ib st'):zAn k a b st Q x y (.done (none,out,ia,ib,ac,bc)) st':=.inr ⟨rfl,h⟩
theorem zAn.go{st':SortSt}(h:J6 k a b st y out ia ib st'):zAn k a b st Q x y (.yield (none,out,ia,ib,ac,bc)) st':=⟨rfl,h⟩
noncomputable def zEh (a b out:Array Keyed)(ia ib ac bc mg:Nat):StateT SortSt Sem (ForInStep zIr):=do
 let y ←elem' b ib
 let x ←elem' a ia
 match ←lt' y x with
 |some w=>
  if w=true then
   let p ←elem' b ib
   if(ib+1==b.size)=true then pure (.done (some (out.push p++a.extract ia a.size++b.extract (ib+1) b.size),out.push p,ia,ib+1,0,bc+1))
   else if bc+1≥mg then pure (.done (none,out.push p,ia,ib+1,0,bc+1))else pure (.yield (none,out.push p,ia,ib+1,0,bc+1))
  else
   let p ←elem' a ia
   if(ia+1+1==a.size)=true then pure (.done (some (out.push p++b.extract ib b.size++a.extract (ia+1) a.size),out.push p,ia+1,ib,ac+1,0))
   else if ac+1≥mg then pure (.done (none,out.push p,ia+1,ib,ac+1,0))else pure (.yield (none,out.push p,ia+1,ib,ac+1,0))
 |_=>pure (.done (some (out++a.extract ia a.size++b.extract ib b.size),out,ia,ib,ac,bc))
theorem zB8(V:Zu X k κ S a b st Q){x y ia ib mg ac bc:Nat}{out:Array Keyed}{st1:SortSt}(m:J6 k a b st (x+y) out ia ib st1):
  SW X (zEh a b out ia ib ac bc mg) (zAn k a b st Q (x+1) (x+(y+1))) st1:=by
 have hyx:x+1<=x+y+1:=lI6 (lI4 _ _)
 obtain⟨pa,epa⟩:=Bi (a:=a) (i:=ia) (lG9 m.ha)
 obtain⟨pb,epb⟩:=Bi (a:=b) (i:=ib) m.hb
 refine Ak (C9 (Aw epb) (Ak (C9 (Aw epa) (Ak (V.H _ _ (V.hSb _ (Df epb)) (V.hSa _ (Df epa)) st1 _ (m.s.1.trans V.hk) ?_)))))
 refine B7 (λhlt=>Ak (C9 (Aw epb) ?_)) λhlt=>Ak (C9 (Aw epa) ?_)
 ·have m1:=m.pushB epb λy hy=>lM2 (lM1 (lH3 hlt)) (Ec V.sa epa y hy)
  refine B7 (λc1=>Ar (zAn.ret (V.doneB _ _ _ _ m1 (Bh c1) m.s))) λc1=>?_
  have m2:J6 k a b st (x+y+1) (out.push pb) ia (ib+1) st1:=⟨m.s,m1,m.ha,Gj m.hb (Ba c1),Hg m.hx⟩
  exact B7 (λ_=>Ar (zAn.brk (m2.le hyx))) λ_=>Ar (zAn.go m2)
 ·have m1:=m.pushA epa λy hy=>lM2 (lN6.mp λh=>hlt (lL1 h)) (Ec V.sb epb y hy)
  refine B7 (λc1=>Ar (zAn.ret (V.lastA _ _ _ _ m1 (Bh c1) m.s))) λc1=>?_
  have m2:J6 k a b st (x+y+1) (out.push pa) (ia+1) ib st1:=⟨m.s,m1,Gj m.ha (Ba c1),m.hb,Hg m.hx⟩
  exact B7 (λ_=>Ar (zAn.brk (m2.le hyx))) λ_=>Ar (zAn.go m2)
theorem Zu.of(H:Qj X k κ S)(hk:kindOf st=κ)(hSa:∀p,p∈a.toList->S p)(hSb:∀p,p∈b.toList->S p)(sa:Hk k a.toList)(sb:Hk k b.toList)
  (ha0:0<a.size) (hlast:∀x y,x∈b.toList->a.toList[a.size - 1]? =some y->k x<=k y)
  (h:∀out st',F4 k a.toList b.toList out.toList->Fp st st'->Q out st'):Zu X k κ S a b st Q:=by
 refine⟨H,hk,hSa,hSb,sa,sb,λout ia ib st' m e s=>h _ st' ?_ s,λout ia ib st' m e s=>h _ st' ?_ s,λout ia ib st' m e s=>h _ st' ?_ s⟩
 ·simp only[lE0,lE0,I8,I8];refine m.endL (λx hx y hy=>?_)
  obtain⟨z,ez⟩:=Bi (a:=a) (i:=a.size - 1) (by exact Cp (Ae x1 x0) [eq1 (.a x1 (.n 1)) x0] rT (Aq (ha0)))
  have e1:a.toList.drop ia=[z]:=by
   rw[show ia=a.size - 1 by exact Du (λZ=>An [_,_,_] [Ae x0 x1,Cz (.a x0 (.n 1)) x2,eq1 (.a x1 (.n 1)) x2] rT Z e (Aq (ha0))) (λZ=>An [_,_,_] [Ae x1 x0,eq1 (.a x0 (.n 1)) x2,Ac x2 (.a x1 (.n 1))] rT Z e (Ao _ _)),←Fn ez,lC0]
   simp;exact Cp (Ac x0 (.a (.n 1) x1)) [Ac x0 (.a x1 (.n 1))] rT (Ao _ _)
  rw[e1]at hy;rw[lq0 hy];exact hlast x z (List.mem_of_mem_drop hx) ez
 ·subst e;rw[lE0,lE0,I8,V7,lJ0];exact m.endB lD9.symm
 ·subst e;rw[lE0,lE0,V7,I8,lJ0];exact m.endA lD9.symm
theorem MI.start(sa:Hk k a.toList)(sb:Hk k b.toList)(hb0:0<b.size){b0 a0:Keyed}(eb0:b.toList[0]? =some b0)(ea0:a.toList[0]? =some a0)(hf:k b0<=k a0):MI k a.toList b.toList [b0] 0 1:=by
 have:MI k a.toList b.toList [] 0 0:=⟨lq5 _,lq5 _,.nil,List.Pairwise.nil,sa,sb,Sb,Sb⟩
 refine this.goB 1 (by rw[lD9];exact hb0) ?_ (by rw[Fn eb0];rfl)
 rw[Fn eb0];exact D7.one λy hy=>lM2 hf (Ec sa ea0 y hy)
noncomputable def zNK (a b:Array Keyed)(c:zCD):StateT SortSt Sem (ForInStep zCD):=
 if c.2.2.2.2.1>1 then Xo a b c.2.1 c.2.2.1 c.2.2.2.1 (c.2.2.2.2.1 - 1) c.2.2.2.2.2.1 c.2.2.2.2.2.2 else Xo a b c.2.1 c.2.2.1 c.2.2.2.1 c.2.2.2.2.1 c.2.2.2.2.2.1 c.2.2.2.2.2.2
noncomputable def zOA (a b:Array Keyed)(mg:Nat)(c:zIr):StateT SortSt Sem (ForInStep zIr):=zEh a b c.2.1 c.2.2.1 c.2.2.2.1 c.2.2.2.2.1 c.2.2.2.2.2 mg
noncomputable abbrev zLr:=Option (Array Keyed)×Array Keyed×Nat×Nat×Nat
noncomputable def zDo (c:zCD):StateT SortSt Sem (ForInStep zLr):=
 match c.1 with
 |some v=>pure (.done (some v,c.2.1,c.2.2.1,c.2.2.2.1,c.2.2.2.2.1))
 |none=>do
  modify λs=>SortSt.mk' (kindOf s) (arrOf s) (pendingOf s) (c.2.2.2.2.1+1) (failedOf s)
  pure (.yield (none,c.2.1,c.2.2.1,c.2.2.2.1,c.2.2.2.2.1+1))
noncomputable def Y9 (a b:Array Keyed)(mg:Nat)(c:zIr):StateT SortSt Sem (ForInStep zLr):=
 match c.1 with
 |some v=>pure (.done (some v,c.2.1,c.2.2.1,c.2.2.2.1,mg))
 |none=>do
  liftM (rule "list.sort.gallop")
  let r ←forIn [0:a.size+b.size] ((none,c.2.1,c.2.2.1,c.2.2.2.1,mg+1,c.2.2.2.2.1,c.2.2.2.2.2):zCD) (λ_ c=>zNK a b c)
  zDo r
noncomputable def zLt (a b:Array Keyed)(c:zLr):StateT SortSt Sem (ForInStep zLr):=do
 let r ←forIn [0:a.size+b.size] ((none,c.2.1,c.2.2.1,c.2.2.2.1,0,0):zIr) (λ_ c'=>zOA a b c.2.2.2.2 c')
 Y9 a b c.2.2.2.2 r
noncomputable def zJG (a b:Array Keyed)(p:Keyed)(mg:Nat):StateT SortSt Sem (Array Keyed):=do
 let r ←forIn [0:a.size+b.size] ((none,#[p],0,1,mg):zLr) (λ_ c=>zLt a b c)
 match r.1 with
 |some v=>pure v
 |none=>liftM (unsupported "internal:list.sort.merge-bound":Sem (Array Keyed))
noncomputable def zOF (k:Keyed->Int)(a b:Array Keyed)(st:SortSt)(Q:Array Keyed->SortSt->Prop)(x:Nat)(r:ForInStep zLr)(st':SortSt):Prop:=
 match r with|.done c'=>∃r,c'.1=some r/\Q r st'|.yield c'=>c'.1=none/\J6 k a b st x c'.2.1 c'.2.2.1 c'.2.2.2.1 st'
theorem zCk{st1:SortSt}(h:zNw k a b st Q x c st1):SW X (zDo c) (zOF k a b st Q x) st1:=by
 unfold zDo;rcases h with⟨r,e,hq⟩|⟨e,m⟩
 ·rw[e];exact Ar ⟨r,rfl,hq⟩
 ·rw[e];exact Ak (Kb λst3 s23=>Ar ⟨rfl,m.step s23⟩)
theorem zCS(V:Zu X k κ S a b st Q){st1:SortSt}(h:zNh k a b st Q (x+1) c st1):SW X (Y9 a b mg c) (zOF k a b st Q (x+1)) st1:=by
 unfold Y9;rcases h with⟨r,e,hq⟩|⟨e,m⟩
 ·rw[e];exact Ar ⟨r,rfl,hq⟩
 rw[e];refine Ak (Jw (Ak (Cw (E0 (I:=λy c st'=>zO3 k a b st (x+1) c st') (Q:=zNw k a b st Q (x+1)) ⟨rfl,m⟩ (lq5 _) (λy c st1 _ hy h=>?_) (λc st' h=>.inr h)) λc st2 h=>zCk h)))
 refine Cw (Q:=Pi k a b st Q (x+1)) (B7 (λ_=>Sa V h.2) λ_=>Sa V h.2) λr st' q=>?_
 cases r<;>exact q
theorem zD3(V:Zu X k κ S a b st Q)(M0:J6 k a b st 0 #[p] 0 1 st):SW X (zJG a b p mg) Q st:=by
 refine Ak (Cw (E0 (I:=λx c st'=>c.1=none/\J6 k a b st x c.2.1 c.2.2.1 c.2.2.2.1 st') (Q:=λc st'=>∃r,c.1=some r/\Q r st')
  ⟨rfl,M0⟩ (lq5 _) (λx c st0 _ hx h=>?_) (λc st' h=>(h.2.out_lt (lN4 _)).elim)) ?_)
 ·refine Cw (Q:=zOF k a b st Q (x+1)) (Ak (Cw (E0 (I:=λy c st'=>zOi k a b st (x+y) c st') (Q:=zNh k a b st Q (x+1))
   ⟨rfl,h.2⟩ (lq5 _) (λy c st1 _ hy h=>?_) (λc st' h=>(h.2.out_lt (Nat.le_add_left _ _)).elim)) λc st1 h=>zCS V h)) λr st' q=>?_
  ·exact Cw (zB8 V h.2) λr st' q=>by cases r<;>exact q
  ·cases r<;>exact q
 ·rintro c st0 ⟨r,e,hq⟩
  rw[e];exact Ar hq
theorem Yz(a b:Array Keyed):Pz a b=(do
  liftM (rule "list.sort.merge-lo")
  let p ←elem' b 0
  if(1==b.size)=true then pure (#[p]++a.extract 0 a.size++b.extract 1 b.size)
  else if(0+1==a.size)=true then pure (#[p]++b.extract 1 b.size++a.extract 0 a.size)
  else
   let s ←get
   zJG a b p (gallopOf s)):=by
 kernel_rfl
theorem Xw(H:Qj X k κ S){a b:Array Keyed}{st:SortSt}{Q:Array Keyed->SortSt->Prop}(hk:kindOf st=κ)(hSa:∀p,p∈a.toList->S p)(hSb:∀p,p∈b.toList->S p)(sa:Hk k a.toList)(sb:Hk k b.toList)
  (ha0:0<a.size) (hb0:0<b.size) (hfirst:∀x y,b.toList[0]? =some x->a.toList[0]? =some y->k x<=k y) (hlast:∀x y,x∈b.toList->a.toList[a.size - 1]? =some y->k x<=k y)
  (h:∀out st',F4 k a.toList b.toList out.toList->Fp st st'->Q out st'):SW X (Pz a b) Q st:=by
 have V:Zu X k κ S a b st Q:=Zu.of H hk hSa hSb sa sb ha0 hlast h
 obtain⟨b0,eb0⟩:=Bi hb0;obtain⟨a0,ea0⟩:=Bi ha0;have m0:=MI.start sa sb hb0 eb0 ea0 (hfirst b0 a0 eb0 ea0);clear H hk hSa hSb hlast h hfirst sa sb ea0;rw[Yz];refine Ak (Jw (Ak (C9 (Aw eb0) ?_)))
 refine B7 (λe=>Ar (V.doneB #[b0] 0 1 st m0 (Bh e) (.refl _))) λe1=>B7 (λe=>Ar (V.lastA #[b0] 0 1 st m0 (Bh e) (.refl _))) λe2=>Ak (I7 ?_)
 exact zD3 V ⟨.refl _,m0,Gj ha0 (Ba e2),lF4 hb0 (Ba e1),lK0⟩
end
section
variable {X:SX}{k:Keyed->Int}{κ:SortKind}{S:Keyed->Prop}
structure MH (k:Keyed->Int)(a b T:List Keyed)(na nb:Nat):Prop where
 la:na<=a.length
 lb:nb<=b.length
 perm:T.Perm (a.drop na++b.drop nb)
 srt:Hk k T
 sa:Hk k a
 sb:Hk k b
 ba:D7 k (a.take na) T
 bb:D7 k (b.take nb) T
theorem MH.symm(m:MH k a b T na nb):MH k b a T nb na:=⟨m.lb,m.la,m.perm.trans lC7,m.srt,m.sb,m.sa,m.bb,m.ba⟩
theorem MH.size(m:MH k a b T na nb):T.length+na+nb=a.length+b.length:=by
 have:=m.perm.length_eq
 have h1:=m.la;have h2:=m.lb;simp at this
 exact Du (λZ=>An [_,_,_,_,_,_,_] [Ae (.a (.a x4 x0) x2) (.a x1 x3),Cz x4 (.a x5 x6),Ac x1 (.a x5 x0),Ac x3 (.a x6 x2)] rT Z this (Ao _ _) (Ao _ _)) (λZ=>An [_,_,_,_,_,_,_] [Ae (.a x1 x3) (.a (.a x4 x0) x2),eq1 x4 (.a x5 x6),eq1 (.a x5 x0) x1,eq1 (.a x6 x2) x3] rT Z this (Aq (h1)) (Aq (h2)))
theorem zEl{a:List Keyed}{m n:Nat}(h:m<=n)(hn:n<=a.length):a.drop m=(a.take n).drop m++a.drop n:=by
 have:(a.take n++a.drop n).drop m=(a.take n).drop m++a.drop n:=lA0 (by simp;lia)
 rwa [lC9]at this
theorem J9{a:List Keyed}{m n:Nat}(h:m<=n):a.take n=a.take m++(a.take n).drop m:=by
 have:=lC9 m (a.take n)
 rw[List.take_take,lJ8 h]at this;exact this.symm
theorem MH.goA{a b T T':List Keyed}{na nb:Nat}(m:MH k a b T na nb)(n:Nat)(hn:n<=na)(hle:D7 k (b.take nb) ((a.take na).drop n))(e:T'=(a.take na).drop n++T):MH k a b T' n nb:=by
 subst e;have hst:Hk k (a.take na):=m.sa.sublist (List.take_sublist _ _)
 refine⟨lM7 hn m.la,m.lb,?_,?_,m.sa,m.sb,?_,?_⟩
 ·simp only[zEl hn m.la,lq8];exact m.perm.append_left _
 ·refine lD7.mpr ⟨hst.sublist (List.drop_sublist _ _),m.srt,λx hx y hy=>m.ba x (List.mem_of_mem_drop hx) y hy⟩
 ·intro x hx y hy;rw[J9 hn]at hst;rcases lJ6.mp hy with hy|hy
  ·exact(lD7.mp hst).2.2 x hx y hy
  ·exact m.ba x (by rw[J9 hn];exact lD4 _ hx) y hy
 ·intro x hx y hy;rcases lJ6.mp hy with hy|hy
  ·exact hle x hx y hy
  ·exact m.bb x hx y hy
theorem MH.goB(m:MH k a b T na nb)(n:Nat)(hn:n<=nb)(hle:D7 k (a.take na) ((b.take nb).drop n))(e:T'=(b.take nb).drop n++T):MH k a b T' na n:=
 (m.symm.goA n hn hle e).symm
theorem MH.endA(m:MH k a b T na nb)(h:na=0):F4 k a b (b.take nb++T):=by
 subst h;refine⟨?_,lD7.mpr ⟨m.sb.sublist (List.take_sublist _ _),m.srt,m.bb⟩⟩
 have:=m.perm.append_left (b.take nb)
 refine this.trans ?_
 rw[lK8];refine(lC7).trans ?_
 rw[lq8];refine List.Perm.append_left _ ?_
 refine(lC7).trans ?_
 rw[lC9]
theorem MH.endB(m:MH k a b T na nb)(h:nb=0):F4 k a b (a.take na++T):=
 let⟨p,s⟩:=m.symm.endA h
 ⟨p.trans lC7,s⟩
theorem MH.endF(m:MH k a b T na nb)(h:D7 k (b.take nb) (a.take na)):F4 k a b (b.take nb++a.take na++T):=by
 have m2:=m.goA 0 (lq5 _) (by rw[lK8];exact h) rfl
 have:=m2.endA rfl
 rw[lK8,←lq8]at this;exact this
theorem R6{a:List Keyed}{n:Nat}{x:Keyed}(h:0<n)(e:a[n - 1]? =some x):(a.take n).drop (n - 1)=[x]:=by
 obtain⟨hi,rfl⟩:=lq2 e;have e2:a.take n=a.take (n - 1)++[a[n - 1]]:=by
  have:=List.take_add_one (l:=a) (i:=n - 1)
  rw[show n - 1+1=n by exact Du (λZ=>An [_,_] [Ae (.a x1 (.n 1)) x0,Ac x0 (.a x1 (.n 1))] rT Z (Ao _ _)) (λZ=>An [_,_] [Ae x0 (.a x1 (.n 1)),eq1 (.a x1 (.n 1)) x0] rT Z (Aq (h))),lA9 hi]at this
  simpa using this
 rw[e2,lA0 (by simp;lia),List.drop_of_length_le (by simp;lia)]
 rfl
theorem Pc{l:List Keyed}{n:Nat}{x:Keyed}(h:x∈l.take n):∃j,j<n/\l[j]? =some x:=by
 have:=Tm (l:=l) (i:=0) (n:=n) (x:=x) (by simpa using h)
 simpa using this
theorem K9{a:List Keyed}(h:Hk k a){n:Nat}{x:Keyed}(e:a[n - 1]? =some x):∀y,y∈a.take n->k y<=k x:=λy hy=>by
 obtain⟨j,hj,e2⟩:=Pc hy;exact Lc h (by exact Ck (Ac x0 x1) [Ae x0 x2,Ac x2 (.a x1 (.n 1))] rT hj (Ao _ _)) e2 e
theorem D7.one'(h:∀y,y∈l->k y<=k x):D7 k l [x]:=λy hy z hz=>by rw[lq0 hz];exact h y hy
theorem zBf(a:Array Keyed)(n:Nat):(a.extract 0 n).toList=a.toList.take n:=by
 rw[Array.toList_extract,lA5];simp
theorem Oe(a:Array Keyed)(m n:Nat):(a.extract m n).toList=(a.toList.take n).drop m:=by
 simp only[Array.toList_extract,lA5,List.drop_take]
theorem Gg{l:List Keyed}{n r:Nat}{x:Keyed}(h:x∈(l.take n).drop r):∃i,r+i<n/\l[r+i]? =some x:=by
 obtain⟨i,e⟩:=Ot h;have hi:r+i<n:=by
  have:=(lq2 e).1
  rw[lI2]at this;lia
 rw[lB0 hi]at e;exact⟨i,hi,e⟩
structure zAF (X:SX)(k:Keyed->Int)(κ:SortKind)(S:Keyed->Prop)(a b:Array Keyed)(st:SortSt)(Q:Array Keyed->SortSt->Prop):Prop where
 H:Qj X k κ S
 hk:kindOf st=κ
 hSa:∀p,p∈a.toList->S p
 hSb:∀p,p∈b.toList->S p
 sa:Hk k a.toList
 sb:Hk k b.toList
 firstB:∀(out:Array Keyed) (na nb:Nat) (st':SortSt),MH k a.toList b.toList out.toList.reverse na nb->nb=1->Fp st st'->Q (b.extract 0 nb++a.extract 0 na++out.reverse) st'
 doneA:∀(out:Array Keyed) (na nb:Nat) (st':SortSt),MH k a.toList b.toList out.toList.reverse na nb->na=0->Fp st st'->Q (a.extract 0 na++b.extract 0 nb++out.reverse) st'
 doneB:∀(out:Array Keyed) (na nb:Nat) (st':SortSt),MH k a.toList b.toList out.toList.reverse na nb->nb=0->Fp st st'->Q (a.extract 0 na++b.extract 0 nb++out.reverse) st'
structure Hw (k:Keyed->Int)(a b:Array Keyed)(st:SortSt)(x:Nat)(out:Array Keyed)(na nb:Nat)(st':SortSt):Prop where
 s:Fp st st'
 m:MH k a.toList b.toList out.toList.reverse na nb
 ha:0<na
 hb:1<nb
 hx:x<out.size
theorem Vh(out:Array Keyed)(p:Keyed):(out.push p).toList.reverse=[p]++out.toList.reverse:=by rw[lG0,List.reverse_append];rfl
theorem zAU(out c:Array Keyed):(out++c.reverse).toList.reverse=c.toList++out.toList.reverse:=by rw[lE0,Array.toList_reverse,List.reverse_append,List.reverse_reverse]
section
variable {a b:Array Keyed}{st st2 st3:SortSt}{x na nb:Nat}{out:Array Keyed}{pa pb:Keyed}
theorem Hw.la(m:Hw k a b st x out na nb st2):na<=a.size:=by have:=m.m.la;rwa [lD9]at this
theorem Hw.lb(m:Hw k a b st x out na nb st2):nb<=b.size:=by have:=m.m.lb;rwa [lD9]at this
theorem Hw.step(m:Hw k a b st x out na nb st2)(s:Fp st2 st3):Hw k a b st x out na nb st3:=⟨m.s.trans s,m.m,m.ha,m.hb,m.hx⟩
theorem Hw.le(m:Hw k a b st x out na nb st2)(h:y<=x):Hw k a b st y out na nb st2:=⟨m.s,m.m,m.ha,m.hb,lF3 h m.hx⟩
theorem Hw.out_lt(m:Hw k a b st x out na nb st2)(h:a.size+b.size<=x):False:=by
 have z:=m.m.size;have h3:=m.hx;simp only[List.length_reverse,lD9,lD9,lD9]at z;exact An [_,_,_,_,_,_] [Ac (.a x0 x1) x2,eq1 (.a (.a x3 x4) x5) (.a x0 x1),Ae x2 x3,Ac (.n 0) x4,Ac (.n 0) x5] rT h z h3 (lq5 _) (lq5 _)
theorem Hw.atA(m:Hw k a b st x out na nb st2):∃p,a.toList[na - 1]? =some p:=Bi (lF5 (Nat.sub_lt m.ha lK0) m.la)
theorem Hw.atB(m:Hw k a b st x out na nb st2):∃p,b.toList[nb - 1]? =some p:=Bi (lF5 (Nat.sub_lt (lG9 m.hb) lK0) m.lb)
theorem Hw.pushA(m:Hw k a b st x out na nb st2)(e:a.toList[na - 1]? =some pa)(h:∀y,y∈b.toList.take nb->k y<=k pa):MH k a.toList b.toList (out.push pa).toList.reverse (na - 1) nb:=
 m.m.goA (na - 1) (Nat.sub_le _ _) (by rw[R6 m.ha e];exact D7.one' h) (by rw[R6 m.ha e];exact Vh _ _)
theorem Hw.pushB(m:Hw k a b st x out na nb st2)(e:b.toList[nb - 1]? =some pb)(h:∀y,y∈a.toList.take na->k y<=k pb):MH k a.toList b.toList (out.push pb).toList.reverse na (nb - 1):=
 m.m.goB (nb - 1) (Nat.sub_le _ _) (by rw[R6 (lG9 m.hb) e];exact D7.one' h) (by rw[R6 (lG9 m.hb) e];exact Vh _ _)
end
noncomputable abbrev zBA:=Option (Array Keyed)×Nat×Nat×Array Keyed×Nat×Nat×Nat
noncomputable def zO9 (k:Keyed->Int)(a b:Array Keyed)(st:SortSt)(x:Nat)(c:zBA)(st':SortSt):Prop:=c.1=none/\Hw k a b st x c.2.2.2.1 c.2.1 c.2.2.1 st'
noncomputable def zNo (k:Keyed->Int)(a b:Array Keyed)(st:SortSt)(Q:Array Keyed->SortSt->Prop)(x:Nat)(c:zBA)(st':SortSt):Prop:=
 (∃r,c.1=some r/\Q r st')∨(c.1=none/\Hw k a b st x c.2.2.2.1 c.2.1 c.2.2.1 st')
noncomputable def Pk (k:Keyed->Int)(a b:Array Keyed)(st:SortSt)(Q:Array Keyed->SortSt->Prop)(x:Nat)(r:ForInStep zBA)(st':SortSt):Prop:=
 match r with|.done c'=>zNo k a b st Q x c' st'|.yield c'=>zO9 k a b st x c' st'
variable {a b:Array Keyed}{st:SortSt}{Q:Array Keyed->SortSt->Prop}
theorem Pk.ret{st':SortSt}(h:Q r st'):Pk k a b st Q x (.done (some r,na,nb,out,mg,ac,bc)) st':=.inl ⟨_,rfl,h⟩
theorem Pk.brk{st':SortSt}(h:Hw k a b st x out na nb st'):Pk k a b st Q x (.done (none,na,nb,out,mg,ac,bc)) st':=.inr ⟨rfl,h⟩
theorem Pk.go{st':SortSt}(h:Hw k a b st x out na nb st'):Pk k a b st Q x (.yield (none,na,nb,out,mg,ac,bc)) st':=⟨rfl,h⟩
theorem Pk.less{st':SortSt}:∀{r:ForInStep zBA},Pk k a b st Q (x+1) r st'->Pk k a b st Q x r st'
 |.done _,h=>Or.imp id (λh=>⟨h.1,h.2.le (lN5 _)⟩) h
 |.yield _,h=>⟨h.1,h.2.le (lN5 _)⟩
noncomputable def Xn (a b out:Array Keyed)(na nb mg ac bc:Nat):StateT SortSt Sem (ForInStep zBA):=do
 let p ←elem' a (na - 1)
 if(na - 1==0)=true then pure (.done (some (a.extract 0 (na - 1)++b.extract 0 nb++(out.push p).reverse),na - 1,nb,out.push p,mg,ac,bc))
 else if(decide (ac<7)&&decide (bc<7))=true then pure (.done (none,na - 1,nb,out.push p,mg,ac,bc))
 else pure (.yield (none,na - 1,nb,out.push p,mg,ac,bc))
theorem S5(V:zAF X k κ S a b st Q){st2:SortSt}(m:Hw k a b st x out na nb st2)(epa:a.toList[na - 1]? =some pa)(hpa:∀y,y∈b.toList.take nb->k y<=k pa):
  SW X (Xn a b out na nb mg ac bc) (Pk k a b st Q (x+1)) st2:=by
 have m1:=m.pushA epa hpa;refine Ak (C9 (Aw epa) (B7 (λd=>?_) λd=>?_))
 ·exact Ar (Pk.ret (V.doneA _ _ _ _ m1 (Bh d) m.s))
 ·have m2:Hw k a b st (x+1) (out.push pa) (na - 1) nb st2:=⟨m.s,m1,lF7 (Ba d),m.hb,Hg m.hx⟩
  exact B7 (λ_=>Ar (Pk.brk m2)) λ_=>Ar (Pk.go m2)
noncomputable def zEH (a b out:Array Keyed)(na nb mg ac r:Nat):StateT SortSt Sem (ForInStep zBA):=
 if nb - r>0 then
  if(r==1)=true then pure (.done (some (b.extract 0 r++a.extract 0 na++(out++(b.extract r nb).reverse).reverse),na,r,out++(b.extract r nb).reverse,mg,ac,nb - r))
  else if(r==0)=true then pure (.done (some (a.extract 0 na++b.extract 0 r++(out++(b.extract r nb).reverse).reverse),na,r,out++(b.extract r nb).reverse,mg,ac,nb - r))
  else Xn a b (out++(b.extract r nb).reverse) na r mg ac (nb - r)
 else Xn a b out na nb mg ac (nb - r)
theorem zBM(V:zAF X k κ S a b st Q){st2:SortSt}(m:Hw k a b st x out na nb st2)(epa:a.toList[na - 1]? =some pa)(hr:r<=nb)(hhigh:D7 k (a.toList.take na) ((b.toList.take nb).drop r))(hpa:∀y,y∈b.toList.take r->k y<=k pa):
  SW X (zEH a b out na nb mg ac r) (Pk k a b st Q (x+1)) st2:=by
 refine B7 (λh0=>?_) λh0=>?_
 ·have m1:MH k a.toList b.toList (out++(b.extract r nb).reverse).toList.reverse na r:=m.m.goB r hr hhigh (by rw[zAU,Oe])
  refine B7 (λd=>?_) λd=>B7 (λe=>?_) λe=>?_
  ·exact Ar (Pk.ret (V.firstB _ _ _ _ m1 (Bh d) m.s))
  ·exact Ar (Pk.ret (V.doneB _ _ _ _ m1 (Bh e) m.s))
  ·refine S5 V ⟨m.s,m1,m.ha,lF4 (lF7 (Ba e)) (Ne.symm (Ba d)),?_⟩ epa hpa
   rw[Array.size_append];exact lF5 m.hx (lI4 _ _)
 ·have:r=nb:=lJ7 hr (by exact Ck (Ac x1 x0) [Ac x2 (.n 0),Ac x1 (.a x2 x0)] rT (lN7.mp h0) (Ao _ _))
  subst this;exact S5 V m epa hpa
theorem zDW(V:zAF X k κ S a b st Q){na nb:Nat}{st2:SortSt}{pa:Keyed}{R:Option Nat->SortSt->Prop}(s2:Fp st st2)(epa:a.toList[na - 1]? =some pa)(hnb:0<nb)(lb:nb<=b.size)
  (h:∀r,r<=nb->D7 k (a.toList.take na) ((b.toList.take nb).drop r)->(∀y,y∈b.toList.take r->k y<=k pa)->R (some r) st2):SW X (E7 true pa b 0 nb (nb - 1)) R st2:=by
 refine Gh V.H (s2.1.trans V.hk) (V.hSa _ (Df epa)) (λi hi=>?_) (Nat.sub_lt hnb lK0) (λi=>match b.toList[i]? with|some p=>decide (k p<k pa)|none=>false) (λi hi p e=>?_) (λi j hij hj hbj=>?_) λr hr hlow hhigh=>h r hr (λu hu v hv=>?_) λy hy=>?_
 ·obtain⟨p,e⟩:=Bi (a:=b) (i:=i) (lF5 hi lb)
  exact⟨p,by rw[lN2];exact Aw e,V.hSb _ (Df e)⟩
 ·have e':b.toList[i]? =some p:=by rw[lN2]at e;simpa using e
  rw[lO6 rfl,e']
 ·apply yo;intro _ k0
  obtain⟨p,e⟩:=Bi (a:=b) (i:=i) (lF3 hij (lF5 hj lb))
  obtain⟨q,e'⟩:=Bi (a:=b) (i:=j) (lF5 hj lb)
  apply k0
  rw[e']at hbj;rw[e];exact lL1 (lE8 (Lc V.sb hij e e') (lH3 hbj))
 ·obtain⟨i,hi,e⟩:=Gg hv;have:=hhigh (r+i) (lI4 _ _) hi
  rw[e]at this;exact lM2 (K9 V.sa epa u hu) (lN6.mp (lF8 this))
 ·obtain⟨i,hi,e⟩:=Pc hy;have:=hlow i hi
  rw[e]at this;exact lM1 (lH3 this)
theorem zEG(V:zAF X k κ S a b st Q){na nb:Nat}{st2:SortSt}{pb:Keyed}{R:Option Nat->SortSt->Prop}(s2:Fp st st2)(epb:b.toList[nb - 1]? =some pb)(hna:0<na)(la:na<=a.size)
  (h:∀r,r<=na->D7 k (b.toList.take nb) ((a.toList.take na).drop r)->(∀y,y∈a.toList.take r->k y<=k pb)->R (some r) st2):SW X (E7 false pb a 0 na (na - 1)) R st2:=by
 refine Gh V.H (s2.1.trans V.hk) (V.hSb _ (Df epb)) (λi hi=>?_) (Nat.sub_lt hna lK0) (λi=>match a.toList[i]? with|some p=>!decide (k pb<k p)|none=>false) (λi hi p e=>?_) (λi j hij hj hbj=>?_) λr hr hlow hhigh=>h r hr (λu hu v hv=>?_) λy hy=>?_
 ·obtain⟨p,e⟩:=Bi (a:=a) (i:=i) (lF5 hi la)
  exact⟨p,by rw[lN2];exact Aw e,V.hSa _ (Df e)⟩
 ·have e':a.toList[i]? =some p:=by rw[lN2]at e;simpa using e
  rw[lO5 (λh=>Bool.noConfusion h),e']
 ·apply yo;intro _ k0
  obtain⟨p,e⟩:=Bi (a:=a) (i:=i) (lF3 hij (lF5 hj la))
  obtain⟨q,e'⟩:=Bi (a:=a) (i:=j) (lF5 hj la)
  apply k0
  rw[e']at hbj;rw[e];have:=Lc V.sa hij e e'
  have h2:=lF8 (lG1 _ |>.mp hbj)
  exact(lG1 _).mpr (decide_eq_false (by exactλZ=>Az [_,_,_] [Ae x1 x0,Ac x0 x2,Ac x2 x1] rT Z this (lN6.mp h2)))
 ·obtain⟨i,hi,e⟩:=Gg hv;have:=hhigh (r+i) (lI4 _ _) hi
  rw[e]at this;exact lM2 (K9 V.sb epb u hu) (lM1 (lH3 ((Bool.not_eq_false' _).mp this)))
 ·obtain⟨i,hi,e⟩:=Pc hy;have:=hlow i hi
  rw[e]at this;exact lN6.mp (lF8 ((lG1 _).mp this))
noncomputable def zFh (a b out:Array Keyed)(na nb mg ac bc:Nat):StateT SortSt Sem (ForInStep zBA):=do
 let p ←elem' b (nb - 1)
 if(nb - 1==1)=true then pure (.done (some (b.extract 0 (nb - 1)++a.extract 0 na++(out.push p).reverse),na,nb - 1,out.push p,mg,ac,bc))
 else
  let q ←elem' a (na - 1)
  match ←E7 true q b 0 (nb - 1) (nb - 1 - 1)with
  |some r=>zEH a b (out.push p) na (nb - 1) mg ac r
  |_=>pure (.done (some (a.extract 0 na++b.extract 0 (nb - 1)++(out.push p).reverse),na,nb - 1,out.push p,mg,ac,bc))
theorem Wy(V:zAF X k κ S a b st Q){st2:SortSt}(m:Hw k a b st x out na nb st2)(epb:b.toList[nb - 1]? =some pb)(hpb:∀y,y∈a.toList.take na->k y<=k pb):
  SW X (zFh a b out na nb mg ac bc) (Pk k a b st Q x) st2:=by
 have m1:=m.pushB epb hpb;refine Ak (C9 (Aw epb) (B7 (λd=>?_) λd=>?_))
 ·exact Ar (Pk.ret (V.firstB _ _ _ _ m1 (Bh d) m.s))
 ·have hnb:1<nb - 1:=lF4 (Nat.le_sub_of_add_le m.hb) (Ne.symm (Ba d))
  have m2:Hw k a b st x (out.push pb) na (nb - 1) st2:=⟨m.s,m1,m.ha,hnb,lG9 (Hg m.hx)⟩
  obtain⟨pa,epa⟩:=m.atA;refine Ak (C9 (Aw epa) (Ak (zDW V m.s epa (lG9 hnb) m2.lb λr hr h1 h2=>?_)))
  exact Cw (zBM V m2 epa hr h1 h2) λr st' q=>Pk.less q
noncomputable def zIi (a b out:Array Keyed)(na nb mg bc r:Nat):StateT SortSt Sem (ForInStep zBA):=
 if na - r>0 then
  if(r==0)=true then pure (.done (some (a.extract 0 r++b.extract 0 nb++(out++(a.extract r na).reverse).reverse),r,nb,out++(a.extract r na).reverse,mg,na - r,bc))
  else zFh a b (out++(a.extract r na).reverse) r nb mg (na - r) bc
 else zFh a b out na nb mg (na - r) bc
theorem zCv(V:zAF X k κ S a b st Q){st2:SortSt}(m:Hw k a b st x out na nb st2)(epb:b.toList[nb - 1]? =some pb)(hr:r<=na)(hhigh:D7 k (b.toList.take nb) ((a.toList.take na).drop r))(hpb:∀y,y∈a.toList.take r->k y<=k pb):
  SW X (zIi a b out na nb mg bc r) (Pk k a b st Q x) st2:=by
 refine B7 (λh0=>?_) λh0=>?_
 ·have m1:MH k a.toList b.toList (out++(a.extract r na).reverse).toList.reverse r nb:=m.m.goA r hr hhigh (by rw[zAU,Oe])
  refine B7 (λd=>?_) λd=>?_
  ·exact Ar (Pk.ret (V.doneA _ _ _ _ m1 (Bh d) m.s))
  ·refine Wy V ⟨m.s,m1,lF7 (Ba d),m.hb,?_⟩ epb hpb
   rw[Array.size_append];exact lF5 m.hx (lI4 _ _)
 ·have:r=na:=lJ7 hr (by exact Ck (Ac x1 x0) [Ac x2 (.n 0),Ac x1 (.a x2 x0)] rT (lN7.mp h0) (Ao _ _))
  subst this;exact Wy V m epb hpb
noncomputable def Z0 (a b out:Array Keyed)(na nb mg ac bc:Nat):StateT SortSt Sem (ForInStep zBA):=do
 modify λs=>SortSt.mk' (kindOf s) (arrOf s) (pendingOf s) mg (failedOf s)
 let p ←elem' b (nb - 1)
 match ←E7 false p a 0 na (na - 1)with
 |some r=>zIi a b out na nb mg bc r
 |_=>pure (.done (some (a.extract 0 na++b.extract 0 nb++out.reverse),na,nb,out,mg,ac,bc))
theorem Se(V:zAF X k κ S a b st Q){st2:SortSt}(m:Hw k a b st x out na nb st2):
  SW X (Z0 a b out na nb mg ac bc) (Pk k a b st Q x) st2:=by
 obtain⟨pb,epb⟩:=m.atB;refine Ak (Kb λst3 s23=>?_)
 have m':=m.step s23;exact Ak (C9 (Aw epb) (Ak (zEG V m'.s epb m.ha m.la λr hr h1 h2=>zCv V m' epb hr h1 h2)))
noncomputable abbrev zJU:=Option (Array Keyed)×Nat×Nat×Array Keyed×Nat×Nat
noncomputable def zO2 (k:Keyed->Int)(a b:Array Keyed)(st:SortSt)(x:Nat)(c:zJU)(st':SortSt):Prop:=c.1=none/\Hw k a b st x c.2.2.2.1 c.2.1 c.2.2.1 st'
noncomputable def zNr (k:Keyed->Int)(a b:Array Keyed)(st:SortSt)(Q:Array Keyed->SortSt->Prop)(x:Nat)(c:zJU)(st':SortSt):Prop:=
 (∃r,c.1=some r/\Q r st')∨(c.1=none/\Hw k a b st x c.2.2.2.1 c.2.1 c.2.2.1 st')
noncomputable def zCG (k:Keyed->Int)(a b:Array Keyed)(st:SortSt)(Q:Array Keyed->SortSt->Prop)(x y:Nat)(r:ForInStep zJU)(st':SortSt):Prop:=
 match r with|.done c'=>zNr k a b st Q x c' st'|.yield c'=>zO2 k a b st y c' st'
theorem zCG.ret{st':SortSt}(h:Q r st'):zCG k a b st Q x y (.done (some r,na,nb,out,ac,bc)) st':=.inl ⟨_,rfl,h⟩
theorem zCG.brk{st':SortSt}(h:Hw k a b st x out na nb st'):zCG k a b st Q x y (.done (none,na,nb,out,ac,bc)) st':=.inr ⟨rfl,h⟩
theorem zCG.go{st':SortSt}(h:Hw k a b st y out na nb st'):zCG k a b st Q x y (.yield (none,na,nb,out,ac,bc)) st':=⟨rfl,h⟩
noncomputable def zFK (a b out:Array Keyed)(na nb ac bc mg:Nat):StateT SortSt Sem (ForInStep zJU):=do
 let y ←elem' b (nb - 1)
 let x ←elem' a (na - 1)
 match ←lt' y x with
 |some w=>
  if w=true then
   let p ←elem' a (na - 1)
   if(na - 1==0)=true then pure (.done (some (a.extract 0 (na - 1)++b.extract 0 nb++(out.push p).reverse),na - 1,nb,out.push p,ac+1,0))
   else if ac+1≥mg then pure (.done (none,na - 1,nb,out.push p,ac+1,0))else pure (.yield (none,na - 1,nb,out.push p,ac+1,0))
  else
   let p ←elem' b (nb - 1)
   if(nb - 1==1)=true then pure (.done (some (b.extract 0 (nb - 1)++a.extract 0 na++(out.push p).reverse),na,nb - 1,out.push p,0,bc+1))
   else if bc+1≥mg then pure (.done (none,na,nb - 1,out.push p,0,bc+1))else pure (.yield (none,na,nb - 1,out.push p,0,bc+1))
 |_=>pure (.done (some (a.extract 0 na++b.extract 0 nb++out.reverse),na,nb,out,ac,bc))
theorem zBh(V:zAF X k κ S a b st Q){st1:SortSt}(m:Hw k a b st (x+y) out na nb st1):
  SW X (zFK a b out na nb ac bc mg) (zCG k a b st Q (x+1) (x+(y+1))) st1:=by
 have hyx:x+1<=x+y+1:=lI6 (lI4 _ _)
 obtain⟨pa,epa⟩:=m.atA;obtain⟨pb,epb⟩:=m.atB;refine Ak (C9 (Aw epb) (Ak (C9 (Aw epa) (Ak (V.H _ _ (V.hSb _ (Df epb)) (V.hSa _ (Df epa)) st1 _ (m.s.1.trans V.hk) ?_)))))
 refine B7 (λhlt=>Ak (C9 (Aw epa) ?_)) λhlt=>Ak (C9 (Aw epb) ?_)
 ·have m1:=m.pushA epa λy hy=>lM2 (K9 V.sb epb y hy) (lM1 (lH3 hlt))
  refine B7 (λc1=>Ar (zCG.ret (V.doneA _ _ _ _ m1 (Bh c1) m.s))) λc1=>?_
  have m2:Hw k a b st (x+y+1) (out.push pa) (na - 1) nb st1:=⟨m.s,m1,lF7 (Ba c1),m.hb,Hg m.hx⟩
  exact B7 (λ_=>Ar (zCG.brk (m2.le hyx))) λ_=>Ar (zCG.go m2)
 ·have m1:=m.pushB epb λy hy=>lM2 (K9 V.sa epa y hy) (lN6.mp λh=>hlt (lL1 h))
  refine B7 (λc1=>Ar (zCG.ret (V.firstB _ _ _ _ m1 (Bh c1) m.s))) λc1=>?_
  have m2:Hw k a b st (x+y+1) (out.push pb) na (nb - 1) st1:=⟨m.s,m1,m.ha,lF4 (Nat.le_sub_of_add_le m.hb) (Ne.symm (Ba c1)),Hg m.hx⟩
  exact B7 (λ_=>Ar (zCG.brk (m2.le hyx))) λ_=>Ar (zCG.go m2)
noncomputable def zNC (a b:Array Keyed)(c:zBA):StateT SortSt Sem (ForInStep zBA):=
 if c.2.2.2.2.1>1 then Z0 a b c.2.2.2.1 c.2.1 c.2.2.1 (c.2.2.2.2.1 - 1) c.2.2.2.2.2.1 c.2.2.2.2.2.2 else Z0 a b c.2.2.2.1 c.2.1 c.2.2.1 c.2.2.2.2.1 c.2.2.2.2.2.1 c.2.2.2.2.2.2
noncomputable def zNz (a b:Array Keyed)(mg:Nat)(c:zJU):StateT SortSt Sem (ForInStep zJU):=zFK a b c.2.2.2.1 c.2.1 c.2.2.1 c.2.2.2.2.1 c.2.2.2.2.2 mg
noncomputable abbrev zLo:=Option (Array Keyed)×Nat×Nat×Array Keyed×Nat
noncomputable def zDe (c:zBA):StateT SortSt Sem (ForInStep zLo):=
 match c.1 with
 |some v=>pure (.done (some v,c.2.1,c.2.2.1,c.2.2.2.1,c.2.2.2.2.1))
 |none=>do
  modify λs=>SortSt.mk' (kindOf s) (arrOf s) (pendingOf s) (c.2.2.2.2.1+1) (failedOf s)
  pure (.yield (none,c.2.1,c.2.2.1,c.2.2.2.1,c.2.2.2.2.1+1))
noncomputable def Xh (a b:Array Keyed)(mg:Nat)(c:zJU):StateT SortSt Sem (ForInStep zLo):=
 match c.1 with
 |some v=>pure (.done (some v,c.2.1,c.2.2.1,c.2.2.2.1,mg))
 |none=>do
  liftM (rule "list.sort.gallop")
  let r ←forIn [0:a.size+b.size] ((none,c.2.1,c.2.2.1,c.2.2.2.1,mg+1,c.2.2.2.2.1,c.2.2.2.2.2):zBA) (λ_ c=>zNC a b c)
  zDe r
noncomputable def zNU (a b:Array Keyed)(c:zLo):StateT SortSt Sem (ForInStep zLo):=do
 let r ←forIn [0:a.size+b.size] ((none,c.2.1,c.2.2.1,c.2.2.2.1,0,0):zJU) (λ_ c'=>zNz a b c.2.2.2.2 c')
 Xh a b c.2.2.2.2 r
noncomputable def zIc (a b:Array Keyed)(p:Keyed)(mg:Nat):StateT SortSt Sem (Array Keyed):=do
 let r ←forIn [0:a.size+b.size] ((none,a.size - 1,b.size,#[p],mg):zLo) (λ_ c=>zNU a b c)
 match r.1 with
 |some v=>pure v
 |none=>liftM (unsupported "internal:list.sort.merge-bound":Sem (Array Keyed))
noncomputable def zNn (k:Keyed->Int)(a b:Array Keyed)(st:SortSt)(Q:Array Keyed->SortSt->Prop)(x:Nat)(r:ForInStep zLo)(st':SortSt):Prop:=
 match r with|.done c'=>∃r,c'.1=some r/\Q r st'|.yield c'=>c'.1=none/\Hw k a b st x c'.2.2.2.1 c'.2.1 c'.2.2.1 st'
theorem zEV{st1:SortSt}(h:zNo k a b st Q x c st1):SW X (zDe c) (zNn k a b st Q x) st1:=by
 unfold zDe;rcases h with⟨r,e,hq⟩|⟨e,m⟩
 ·rw[e];exact Ar ⟨r,rfl,hq⟩
 ·rw[e];exact Ak (Kb λst3 s23=>Ar ⟨rfl,m.step s23⟩)
theorem zCR(V:zAF X k κ S a b st Q){st1:SortSt}(h:zNr k a b st Q (x+1) c st1):SW X (Xh a b mg c) (zNn k a b st Q (x+1)) st1:=by
 unfold Xh;rcases h with⟨r,e,hq⟩|⟨e,m⟩
 ·rw[e];exact Ar ⟨r,rfl,hq⟩
 rw[e];refine Ak (Jw (Ak (Cw (E0 (I:=λy c st'=>zO9 k a b st (x+1) c st') (Q:=zNo k a b st Q (x+1)) ⟨rfl,m⟩ (lq5 _) (λy c st1 _ hy h=>?_) (λc st' h=>.inr h)) λc st2 h=>zEV h)))
 refine Cw (Q:=Pk k a b st Q (x+1)) (B7 (λ_=>Se V h.2) λ_=>Se V h.2) λr st' q=>?_
 cases r<;>exact q
theorem zF9(V:zAF X k κ S a b st Q)(M0:Hw k a b st 0 #[p] (a.size - 1) b.size st):SW X (zIc a b p mg) Q st:=by
 refine Ak (Cw (E0 (I:=λx c st'=>c.1=none/\Hw k a b st x c.2.2.2.1 c.2.1 c.2.2.1 st') (Q:=λc st'=>∃r,c.1=some r/\Q r st')
  ⟨rfl,M0⟩ (lq5 _) (λx c st0 _ hx h=>?_) (λc st' h=>(h.2.out_lt (lN4 _)).elim)) ?_)
 ·refine Cw (Q:=zNn k a b st Q (x+1)) (Ak (Cw (E0 (I:=λy c st'=>zO2 k a b st (x+y) c st') (Q:=zNr k a b st Q (x+1))
   ⟨rfl,h.2⟩ (lq5 _) (λy c st1 _ hy h=>?_) (λc st' h=>(h.2.out_lt (Nat.le_add_left _ _)).elim)) λc st1 h=>zCR V h)) λr st' q=>?_
  ·exact Cw (zBh V h.2) λr st' q=>by cases r<;>exact q
  ·cases r<;>exact q
 ·rintro c st0 ⟨r,e,hq⟩
  rw[e];exact Ar hq
theorem Zc(a b:Array Keyed):Q0 a b=(do
  liftM (rule "list.sort.merge-hi")
  let p ←elem' a (a.size - 1)
  if(a.size - 1==0)=true then pure (a.extract 0 (a.size - 1)++b.extract 0 b.size++(#[p]:Array Keyed).reverse)
  else if(b.size==1)=true then pure (b.extract 0 b.size++a.extract 0 (a.size - 1)++(#[p]:Array Keyed).reverse)
  else
   let s ←get
   zIc a b p (gallopOf s)):=by
 kernel_rfl
theorem zAF.of(H:Qj X k κ S)(hk:kindOf st=κ)(hSa:∀p,p∈a.toList->S p)(hSb:∀p,p∈b.toList->S p)(sa:Hk k a.toList)(sb:Hk k b.toList)(eb0:b.toList[0]? =some b0)(ea0:a.toList[0]? =some a0)(hf:k b0<=k a0)(h:∀out st',F4 k a.toList b.toList out.toList->Fp st st'->Q out st'):zAF X k κ S a b st Q:=by
 refine⟨H,hk,hSa,hSb,sa,sb,λout na nb st' m e s=>h _ st' ?_ s,λout na nb st' m e s=>h _ st' ?_ s,λout na nb st' m e s=>h _ st' ?_ s⟩
 ·simp only[lE0,lE0,zBf,zBf,Array.toList_reverse];refine m.endF (λx hx y hy=>?_)
  subst e;have e1:b.toList.take 1=[b0]:=by have:=Fn eb0;rwa [lK8]at this
  rw[e1]at hx;rw[lq0 hx];exact lM2 hf (Ec sa ea0 y (by rw[lK8];exact lD6 hy))
 ·rw[lE0,lE0,zBf,zBf,Array.toList_reverse];have:=m.endA e
  subst e;exact this
 ·rw[lE0,lE0,zBf,zBf,Array.toList_reverse];have:=m.endB e
  subst e;simp only[List.take_zero,lJ0];exact this
theorem Xf(H:Qj X k κ S){a b:Array Keyed}{st:SortSt}{Q:Array Keyed->SortSt->Prop}(hk:kindOf st=κ)(hSa:∀p,p∈a.toList->S p)(hSb:∀p,p∈b.toList->S p)(sa:Hk k a.toList)(sb:Hk k b.toList)
  (ha0:0<a.size) (hb0:0<b.size) (hfirst:∀x y,b.toList[0]? =some x->a.toList[0]? =some y->k x<=k y) (hlast:∀x y,x∈b.toList->a.toList[a.size - 1]? =some y->k x<=k y)
  (h:∀out st',F4 k a.toList b.toList out.toList->Fp st st'->Q out st'):SW X (Q0 a b) Q st:=by
 obtain⟨b0,eb0⟩:=Bi hb0;obtain⟨a0,ea0⟩:=Bi ha0;obtain⟨al,eal⟩:=Bi (a:=a) (i:=a.size - 1) (Nat.sub_lt ha0 lK0)
 have V:zAF X k κ S a b st Q:=zAF.of H hk hSa hSb sa sb eb0 ea0 (hfirst b0 a0 eb0 ea0) h
 have m0:MH k a.toList b.toList [al] (a.size - 1) b.size:=by
  have h0:MH k a.toList b.toList [] a.size b.size:=⟨lM5 lD9.symm,lM5 lD9.symm,by rw[List.drop_of_length_le (lM5 lD9),List.drop_of_length_le (lM5 lD9)];exact .nil,List.Pairwise.nil,sa,sb,λ_ _ _ h=>absurd h lI3,λ_ _ _ h=>absurd h lI3⟩
  refine h0.goA (a.size - 1) (Nat.sub_le _ _) ?_ (by rw[R6 ha0 eal];rfl)
  simp only[R6 ha0 eal];exact D7.one' λy hy=>hlast y al (lD6 hy) eal
 clear hfirst hlast h;rw[Zc];refine Ak (Jw (Ak (C9 (Aw eal) ?_)))
 refine B7 (λe=>Ar (V.doneA #[al] _ _ st m0 (Bh e) (.refl _))) λe1=>B7 (λe=>Ar (V.firstB #[al] _ _ st m0 (Bh e) (.refl _))) λe2=>Ak (I7 ?_)
 exact zF9 V ⟨.refl _,m0,lF7 (Ba e1),lF4 hb0 (Ne.symm (Ba e2)),lK0⟩
end
section
variable {X:SX}{k:Keyed->Int}{κ:SortKind}{S:Keyed->Prop}
noncomputable def KA (k:Keyed->Int)(xs:Array Keyed)(i:Nat):Int:=match xs[i]? with
 |some p=>k p
 |none=>0
theorem Eh(h:xs[i]? =ys[j]?):KA k xs i=KA k ys j:=by unfold KA;rw[h]
theorem Fw(h:xs[i]? =some p):KA k xs i=k p:=by unfold KA;rw[h]
noncomputable def D8 (k:Keyed->Int)(xs:Array Keyed)(lo hi:Nat):Prop:=∀i j,lo<=i->i<=j->j<hi->KA k xs i<=KA k xs j
structure Qi (st st':SortSt)(lo hi:Nat):Prop where
 kind:kindOf st'=kindOf st
 failed:failedOf st'=failedOf st
 pend:pendingOf st'=pendingOf st
 perm:(arrOf st').toList.Perm (arrOf st).toList
 out:∀i,i<lo∨hi<=i->(arrOf st')[i]? =(arrOf st)[i]?
theorem Qi.refl(st:SortSt)(lo hi:Nat):Qi st st lo hi:=⟨rfl,rfl,rfl,.refl _,λ_ _=>rfl⟩
theorem Qi.trans{lo hi:Nat}{a b c:SortSt}(x:Qi a b lo hi)(y:Qi b c lo hi):Qi a c lo hi:=⟨y.kind.trans x.kind,y.failed.trans x.failed,y.pend.trans x.pend,y.perm.trans x.perm,λi h=>(y.out i h).trans (x.out i h)⟩
theorem Qi.size{lo hi:Nat}{a b:SortSt}(x:Qi a b lo hi):(arrOf b).size=(arrOf a).size:=by have:=x.perm.length_eq;simpa using this
theorem Qi.mono{lo hi lo' hi':Nat}{a b:SortSt}(x:Qi a b lo hi)(h1:lo'<=lo)(h2:hi<=hi'):Qi a b lo' hi':=⟨x.kind,x.failed,x.pend,x.perm,λi h=>x.out i (by exact Or.elim h (λhd15=>.inl (lF5 hd15 h1)) (λhd15=>.inr (lM7 h2 hd15)))⟩
theorem Qi.mirror{lo hi:Nat}{st:SortSt}(hi':hi<=(arrOf st).size):Qi st (setArr st (mirror (arrOf st) lo hi ((hi - lo) / 2))) lo hi:=
 ⟨rfl,rfl,rfl,Array.perm_iff_toList_perm.mp (mirror_perm _ _ _ _),λi h=>by
  rw[getElem?_mirror_all hi',lO5 (by(clear hi';lia))]⟩
theorem Qi.bubble{lo src dst hi:Nat}{st:SortSt}(h1:src<(arrOf st).size)(h2:lo<=dst)(h3:dst<=src)(h4:src<hi):Qi st (setArr st (bubble (arrOf st) src (src - dst))) lo hi:=
 ⟨rfl,rfl,rfl,Array.perm_iff_toList_perm.mp (bubble_perm _ _ _),λi h=>by
  rw[getElem?_bubble h1 _ (by exact(Eb _ _)),lO5 (by exact Or.elim h (λhd18=>λZ=>An [_,_,_,_,_,_] [Cz x0 x1,Ac x2 x3,Ae x0 x2,Ac x4 (.a x1 x5),eq1 (.a x5 x3) x4] rT Z h2 hd18 (Ao _ _) (Aq (h3))) (λhd18=>λZ=>An [_,_,_,_] [eq1 x0 x1,Ae x2 x3,Ac x3 x0,Ac x1 x2] rT Z h4 hd18 (Eb _ _))),lO5 (by(clear h3 h1;lia))]⟩
theorem zNP(hnd:(xs.toList.map k).Nodup)(hi:i<xs.size)(hj:j<xs.size)(h:i≠j):KA k xs i≠KA k xs j:=by
 rw[Fw (p:=xs[i]) (by simp[hi]),Fw (p:=xs[j]) (by simp[hj])]
 intro e;have:=List.nodup_iff_pairwise_ne.mp hnd
 rw[lA7]at this;rcases Nat.lt_or_gt_of_ne h with h|h
 ·have:=this i j (by simpa using hi) (by simpa using hj) h
  simp at this
  exact this e
 ·have:=this j i (by simpa using hj) (by simpa using hi) h
  simp at this
  exact this e.symm
theorem zHb(H:Qj X k κ S){st:SortSt}{Q:Option Bool->SortSt->Prop}(hk:kindOf st=κ)(hS:∀p,p∈(arrOf st).toList->S p)(hi:i<(arrOf st).size)(hj:j<(arrOf st).size)(h:Q (some (decide (KA k (arrOf st) i<KA k (arrOf st) j))) st):SW X (ltAt' i j) Q st:=by
 simp only[ltAt'_eq];refine Ak (I7 ?_)
 obtain⟨p,ep⟩:=Bi hi;obtain⟨q,eq⟩:=Bi hj;refine Ak (C9 (Aw ep) (Ak (C9 (Aw eq) ?_)))
 refine H p q (hS _ (Df ep)) (hS _ (Df eq)) st Q hk ?_
 rw[Fw (Aw ep),Fw (Aw eq)]at h;exact h
theorem S9(hj:j<=xs.size)(l:Nat):
  KA k (mirror xs i j ((j - i) / 2)) l=if i<=l/\l<j then KA k xs (i+j - 1 - l)else KA k xs l:=by
 have e:=getElem?_mirror_all (i:=i) hj l;by_cases h1:i<=l/\l<j
 ·rw[lO6 h1]at e ⊢; exact Eh e
 ·rw[lO5 h1]at e ⊢; exact Eh e
theorem zBe(hs:src<xs.size)(hd:d<=src)(l:Nat):
  KA k (bubble xs src d) l=if l=src - d then KA k xs src else if src - d<l/\l<=src then KA k xs (l - 1)else KA k xs l:=by
 have e:=getElem?_bubble hs d hd l;by_cases h1:l=src - d
 ·rw[lO6 h1]at e ⊢; exact Eh e
 ·rw[lO5 h1]at e ⊢;by_cases h2:src - d<l/\l<=src
  ·rw[lO6 h2]at e ⊢; exact Eh e
  ·rw[lO5 h2]at e ⊢; exact Eh e
structure SV (X:SX)(k:Keyed->Int)(κ:SortKind)(S:Keyed->Prop)(st:SortSt):Prop where
 H:Qj X k κ S
 hk:kindOf st=κ
 hS:∀p,p∈(arrOf st).toList->S p
theorem SV.chg{st st':SortSt}{lo hi:Nat}(V:SV X k κ S st)(hC:Qi st st' lo hi):SV X k κ S st':=⟨V.H,hC.kind.trans V.hk,λp m=>V.hS p (hC.perm.mem_iff.mp m)⟩
theorem SV.lt{st:SortSt}(V:SV X k κ S st){i j:Nat}{Q:Option Bool->SortSt->Prop}(hi:i<(arrOf st).size)(hj:j<(arrOf st).size)(h:Q (some (decide (KA k (arrOf st) i<KA k (arrOf st) j))) st):SW X (ltAt' i j) Q st:=zHb V.H V.hk V.hS hi hj h
theorem zGR{i j:Nat}{st:SortSt}{Q:Unit->SortSt->Prop}(h:Q () (setArr st (bubble (arrOf st) i (i - j)))):SW X (moveDown' i j) Q st:=by
 rw[moveDown'_eq];exact Gk h
theorem zJz{i j:Nat}{st:SortSt}{Q:Unit->SortSt->Prop}(h:Q () (setArr st (mirror (arrOf st) i j ((j - i) / 2)))):SW X (reverseSlice' i j) Q st:=by
 rw[reverseSlice'_eq];exact Gk h
noncomputable abbrev zLm:=Option Bool×Nat×Nat
noncomputable def zNS (lo x:Nat)(c:zLm):StateT SortSt Sem (ForInStep zLm):=
 if c.2.1≥c.2.2 then pure (.done (none,c.2.1,c.2.2))
 else do
  match ←ltAt' (lo+x) (lo+(c.2.1+c.2.2) / 2)with
  |some less=>if less=true then pure (.yield (none,c.2.1,(c.2.1+c.2.2) / 2))else pure (.yield (none,(c.2.1+c.2.2) / 2+1,c.2.2))
  |_=>pure (.done (some false,c.2.1,c.2.2))
noncomputable def zMN (lo x:Nat):StateT SortSt Sem (ForInStep (Option Bool×Unit)):=do
 let r ←forIn [0:x] ((none,0,x):zLm) λ_ c=>zNS lo x c
 match r.1 with
 |some v=>pure (.done (some v,()))
 |none=>do moveDown' (lo+x) (lo+r.2.1);pure (.yield (none,()))
theorem zBd(lo n ok:Nat):binarySort' lo n ok=(do
  let r ←forIn [max ok 1:n] ((none,()):Option Bool×Unit) λx _=>zMN lo x
  match r.1 with
  |some v=>pure v
  |none=>pure true):=by kernel_rfl
theorem zNp{l r:Nat}(h:l<r):l<=(l+r) / 2/\(l+r) / 2<r:=by exact⟨Ck (Qe 2 x0 x1) [Ae x0 x2,Ae (.a x0 x2) (.a (.m 2 x1) (.n 2))] rT h (Sy _ (Nat.succ_pos _)),Ck (Zx 2 x1 x0) [Ae x2 x0,Ac (.m 2 x1) (.a x2 x0)] rT h (N4 _ _)⟩
inductive zOv (k:Keyed->Int)(st:SortSt)(lo x y:Nat)(c:zLm)(st':SortSt):Prop
 |mk (l r:Nat) (e:st'=st) (ec:c=(none,l,r)) (hlr:l<=r) (hr:r<=x) (hm:r - l<=x - y) (hlo:∀i,lo<=i->i<lo+l->KA k (arrOf st) i<=KA k (arrOf st) (lo+x)) (hhi:∀i,lo+r<=i->i<lo+x->KA k (arrOf st) (lo+x)<KA k (arrOf st) i)
theorem zNR{lo x:Nat}{st:SortSt}{Q:zLm->SortSt->Prop}(V:SV X k κ S st)(hx:lo+x<(arrOf st).size)(hs:D8 k (arrOf st) lo (lo+x))
  (hQ:∀l,l<=x->(∀i,lo<=i->i<lo+l->KA k (arrOf st) i<=KA k (arrOf st) (lo+x))->(∀i,lo+l<=i->i<lo+x->KA k (arrOf st) (lo+x)<KA k (arrOf st) i)->Q (none,l,l) st):SW X (forIn [0:x] ((none,0,x):zLm) λ_ c=>zNS lo x c) Q st:=by
 refine E0 (I:=zOv k st lo x) ⟨0,x,rfl,rfl,lq5 _,lN4 _,lN4 _,λi h1 h2=>absurd h1 (Nat.not_le_of_lt h2),λi h1 h2=>absurd h1 (Nat.not_le_of_lt h2)⟩ (lq5 _) (λy c st' _ hy J=>?_) λc st' J=>?_
 ·obtain⟨l,r,rfl,rfl,hlr,hr,hm,hlo,hhi⟩:=J;refine B7 (λg=>?_) λg=>?_
  ·have e:r=l:=lJ7 g hlr
   subst e;exact Ar (hQ r hr hlo hhi)
  ·obtain⟨m1,m2⟩:=zNp (Nat.lt_of_not_le g);have m3:=lF5 m2 hr;refine Ak (V.lt hx (lM9 (Nat.add_lt_add_left m3 lo) hx) ?_)
   cases hb:decide (KA k (arrOf st') (lo+x)<KA k (arrOf st') (lo+(l+r) / 2))with
   |true=>exact Ar ⟨l,_,rfl,rfl,m1,lM6 m3,zMT m2 hm,hlo,λi h1 h2=>Int.lt_of_lt_of_le (lH3 hb) (hs _ _ (lI4 _ _) h1 h2)⟩
   |false=>exact Ar ⟨_,r,rfl,rfl,m2,hr,zMX m1 hm,λi h0 h1=>lM2 (hs i _ h0 (lG8 h1) (Nat.add_lt_add_left m3 lo)) (lN6.mp (lF8 hb)),hhi⟩
 ·obtain⟨l,r,rfl,rfl,hlr,hr,hm,hlo,hhi⟩:=J;rw[lN1]at hm;have e:r=l:=lJ7 (Nat.le_of_sub_eq_zero (Nat.le_zero.mp hm)) hlr
  subst e;exact hQ r hr hlo hhi
theorem zIS{xs:Array Keyed}{lo x l:Nat}(hks:lo+x<xs.size)(hl:l<=x)(hs:D8 k xs lo (lo+x))(hlo:∀i,lo<=i->i<lo+l->KA k xs i<=KA k xs (lo+x))(hhi:∀i,lo+l<=i->i<lo+x->KA k xs (lo+x)<KA k xs i):D8 k (bubble xs (lo+x) (lo+x - (lo+l))) lo (lo+(x+1)):=by
 have hd:lo+x - (lo+x - (lo+l))=lo+l:=Nat.sub_sub_self (lE4 hl lo)
 have b:=zBe (k:=k) hks (Nat.sub_le (lo+x) (lo+l));rw[hd]at b;have b1:∀{p},p<lo+l->KA k (bubble xs (lo+x) (lo+x - (lo+l))) p=KA k xs p:=λh=>by rw[b,lO5 (lN0 h),lO5 λz=>Nat.lt_asymm h z.1]
 have b3:∀{p},lo+l<p->p<lo+(x+1)->KA k (bubble xs (lo+x) (lo+x - (lo+l))) p=KA k xs (p - 1):=λh h2=>by rw[b,lO5 (Nat.ne_of_gt h),lO6 ⟨h,lG8 h2⟩]
 have b2:KA k (bubble xs (lo+x) (lo+x - (lo+l))) (lo+l)=KA k xs (lo+x):=by rw[b,lO6 rfl]
 clear b hd;intro i j hi hij hj;rcases lH1 i (lo+l)with a|a|a
 ·rw[b1 a];rcases lH1 j (lo+l)with c|c|c
  ·rw[b1 c];exact hs i j hi hij (lF5 c (lE4 hl lo))
  ·rw[c,b2];exact hlo i hi a
  ·rw[b3 c hj];exact hs i (j - 1) hi (Nat.le_sub_one_of_lt (lM9 a c)) (by exact Cd (Ae x2 (.a x0 x1)) [Ae x3 (.a x0 (.a x1 (.n 1))),eq1 (.a x2 (.n 1)) x3] rT hj (Aq (Cd (Ac (.n 1) x0) [Ac x1 x2,Ae x2 (.a x1 x3),Ae (.a x1 x3) x0,Ac (.n 0) x1] rT hi a c (lq5 _))))
 ·subst a;rcases lF6 hij with c|c
  ·rw[b2,b3 c hj];exact lM1 (hhi (j - 1) (Nat.le_sub_one_of_lt c) (by exact Cd (Ae x2 (.a x0 x1)) [Ae x3 (.a x0 (.a x1 (.n 1))),eq1 (.a x2 (.n 1)) x3] rT hj (Aq (Ck (Ac (.n 1) x0) [Ac x1 (.a x1 x2),Ae (.a x1 x2) x0,Ac (.n 0) x1] rT hi c (lq5 _)))))
  ·rw[←c];exact lN3 _
 ·rw[b3 a (lF3 hij hj),b3 (lF5 a hij) hj];exact hs (i - 1) (j - 1) (by exact Cd (Ac x0 x1) [Ae (.a x0 x2) x3,Ac (.n 0) x2,Ac x3 (.a x1 (.n 1))] rT a (lq5 _) (Ao _ _)) (lD8 hij 1) (by exact Cd (Ae x2 (.a x0 x1)) [Ae x3 (.a x0 (.a x1 (.n 1))),eq1 (.a x2 (.n 1)) x3] rT hj (Aq (Cd (Ac (.n 1) x0) [Ac x1 x0,Ae (.a x2 x3) x1,Ac (.n 0) x2,Ac (.n 0) x3] rT hij a (lq5 _) (lq5 _))))
inductive zOX (k:Keyed->Int)(st:SortSt)(lo n x:Nat)(c:Option Bool×Unit)(st':SortSt):Prop
 |mk (e:c.1=none) (hC:Qi st st' lo (lo+n)) (hs:D8 k (arrOf st') lo (lo+x))
theorem Qy{lo n ok:Nat}{st:SortSt}{Q:Bool->SortSt->Prop}(V:SV X k κ S st)(hn:lo+n<=(arrOf st).size)(hok:ok<=n)(h1:1<=n)(hs:D8 k (arrOf st) lo (lo+ok))(h:∀st',D8 k (arrOf st') lo (lo+n)->Qi st st' lo (lo+n)->Q true st'):SW X (binarySort' lo n ok) Q st:=by
 rw[zBd];refine Ak (Cw (E0 (I:=zOX k st lo n) (Q:=zOX k st lo n n) ⟨rfl,.refl _ _ _,λi j hi hij hj=>?_⟩ (Nat.max_le.mpr ⟨hok,h1⟩) (λx c st' hx hxn J=>?_) (λc st' J=>J)) λc st' J=>?_)
 ·rcases lM8 j (lo+ok)with q|q
  ·exact hs i j hi hij q
  ·have e:i=j:=by lia
   rw[e];exact lN3 _
 ·obtain⟨e,hC,hs'⟩:=J;have hx':lo+x<(arrOf st').size:=by rw[hC.size];exact lF5 (Nat.add_lt_add_left hxn lo) hn
  exact Ak (zNR (V.chg hC) hx' hs' λl hl hlo hhi=>Ak (zGR (Ar ⟨rfl,hC.trans (Qi.bubble hx' (lI4 _ _) (lE4 hl lo) (Nat.add_lt_add_left hxn lo)),zIS hx' hl hs' hlo hhi⟩)))
 ·obtain⟨e,hC,hs'⟩:=J;rw[e];exact Ar (h st' hs' hC)
noncomputable abbrev zJp:=Option (Option Nat)×Nat
noncomputable abbrev zLh:=Option (Option Nat)×Nat×Nat
noncomputable def zFQ (lo:Nat)(c:zJp):StateT SortSt Sem (ForInStep zJp):=do
 match ←ltAt' (lo+c.2) (lo+c.2 - 1)with
 |some smaller=>if smaller=true then pure (.done (none,c.2))else pure (.yield (none,c.2+1))
 |_=>pure (.done (some none,c.2))
noncomputable def zId (lo:Nat)(c:zLh):StateT SortSt Sem (ForInStep zLh):=do
 match ←ltAt' (lo+c.2.1) (lo+c.2.1 - 1)with
 |some smaller=>
  if smaller=true then
   if c.2.2>0 then do reverseSlice' (lo+c.2.1 - (c.2.2+1)) (lo+c.2.1);pure (.yield (none,c.2.1+1,0))
   else pure (.yield (none,c.2.1+1,0))
  else do
   match ←ltAt' (lo+c.2.1 - 1) (lo+c.2.1)with
   |some larger=>if larger=true then pure (.done (none,c.2.1,c.2.2))else pure (.yield (none,c.2.1+1,c.2.2+1))
   |_=>pure (.done (some none,c.2.1,c.2.2))
 |_=>pure (.done (some none,c.2.1,c.2.2))
noncomputable def zK9 (lo nrem n:Nat):StateT SortSt Sem (Option Nat):=do
 let r ←forIn [n:nrem] ((none,n):zJp) λ_ c=>zFQ lo c
 match r.1 with
 |some v=>pure v
 |none=>pure (some r.2)
noncomputable def zIy (lo nrem n:Nat):StateT SortSt Sem (Option Nat):=do reverseSlice' lo (lo+n);zK9 lo nrem n
noncomputable def zDS (lo nrem n:Nat):StateT SortSt Sem (Option Nat):=do
 liftM (rule "list.sort.descending-run")
 let r ←forIn [n+1:nrem] ((none,n+1,0):zLh) λ_ c=>zId lo c
 match r.1 with
 |some v=>pure v
 |none=>if r.2.2>0 then do reverseSlice' (lo+r.2.1 - (r.2.2+1)) (lo+r.2.1);zIy lo nrem r.2.1 else zIy lo nrem r.2.1
theorem zDO(lo nrem:Nat):countRun' lo nrem=(do
  let r ←forIn [1:nrem] ((none,1):zJp) λ_ c=>zFQ lo c
  match r.1 with
  |some v=>pure v
  |none=>
   if(r.2==nrem)=true then pure (some r.2)
   else if r.2>1 then do
    match ←ltAt' lo (lo+r.2 - 1)with
    |some rose=>if rose=true then pure (some r.2)else do reverseSlice' lo (lo+r.2);zDS lo nrem r.2
    |_=>pure none
   else zDS lo nrem r.2):=by kernel_rfl
inductive zOr (k:Keyed->Int)(st:SortSt)(lo x:Nat)(c:zJp)(st':SortSt):Prop
 |mk (e:st'=st) (ec:c=(none,x)) (hs:D8 k (arrOf st) lo (lo+x))
noncomputable def zN4 (k:Keyed->Int)(xs:Array Keyed)(lo hi:Nat):Prop:=∀i j,lo<=i->i<=j->j<hi->KA k xs j<=KA k xs i
inductive zOz (k:Keyed->Int)(st:SortSt)(lo x:Nat)(c:zLh)(st':SortSt):Prop
 |mk (e:st'=st) (ec:c=(none,x,0)) (hs:zN4 k (arrOf st) lo (lo+x))
theorem zKL{r:Nat->Nat->Prop}(re:∀i,r i i)(tr:∀a b c,r a b->r b c->r a c){lo x:Nat}(hx:1<=x)(h:∀i j,lo<=i->i<=j->j<lo+x->r i j)(hl:r (lo+x - 1) (lo+x)):∀i j,lo<=i->i<=j->j<lo+(x+1)->r i j:=λi j hi hij hj=>by
 rcases lM8 j (lo+x)with z|z
 ·exact h i j hi hij z
 ·have e:j=lo+x:=lJ7 (lG8 hj) z
  subst e;rcases lM8 i (lo+x)with y|y
  ·have hp:0<lo+x:=lF5 hx (Nat.le_add_left _ _)
   exact tr _ _ _ (h i (lo+x - 1) hi (Nat.le_sub_one_of_lt y) (Nat.sub_lt hp lK0)) hl
  ·have e:i=lo+x:=lJ7 hij y
   subst e;exact re _
theorem zCc{lo n0 nrem:Nat}{st:SortSt}{Q:zJp->SortSt->Prop}(V:SV X k κ S st)(h1:1<=n0)(h2:n0<=nrem)(hn:lo+nrem<=(arrOf st).size)(hs:D8 k (arrOf st) lo (lo+n0))
  (hQ:∀m,n0<=m->m<=nrem->D8 k (arrOf st) lo (lo+m)->m=nrem∨KA k (arrOf st) (lo+m)<KA k (arrOf st) (lo+m - 1)->Q (none,m) st):SW X (forIn [n0:nrem] ((none,n0):zJp) λ_ c=>zFQ lo c) Q st:=by
 refine E0 (I:=zOr k st lo) ⟨rfl,rfl,hs⟩ h2 (λx c st' hx hxn J=>?_) λc st' J=>?_
 ·obtain⟨rfl,rfl,hs'⟩:=J;have hx1:lo+x<(arrOf st').size:=lF5 (Nat.add_lt_add_left hxn lo) hn
  refine Ak (V.lt hx1 (lF3 (Nat.sub_le _ _) hx1) ?_)
  cases hb:decide (KA k (arrOf st') (lo+x)<KA k (arrOf st') (lo+x - 1))with
  |true=>exact Ar (hQ x hx (lM6 hxn) hs' (.inr (lH3 hb)))
  |false=>exact Ar ⟨rfl,rfl,zKL (r:=λi j=>KA k (arrOf st') i<=KA k (arrOf st') j) (λ_=>lN3 _) (λ_ _ _=>lM2) (lM7 h1 hx) hs' (lN6.mp (lF8 hb))⟩
 ·obtain⟨rfl,rfl,hs'⟩:=J;exact hQ nrem h2 (lN4 _) hs' (.inl rfl)
theorem zJC{xs:Array Keyed}{i j:Nat}(hnd:(xs.toList.map k).Nodup)(hi:i<xs.size)(hj:j<xs.size)(h:i≠j)(hle:KA k xs i<=KA k xs j):decide (KA k xs i<KA k xs j)=true:=lL1 (Int.lt_iff_le_and_ne.mpr (And.intro hle (zNP hnd hi hj h)))
theorem zKZ{lo nrem:Nat}{st:SortSt}{Q:zLh->SortSt->Prop}(V:SV X k κ S st)(hnd:((arrOf st).toList.map k).Nodup)(h2:1+1<=nrem)(hn:lo+nrem<=(arrOf st).size)(hd:zN4 k (arrOf st) lo (lo+(1+1)))
  (hQ:∀m,1+1<=m->m<=nrem->zN4 k (arrOf st) lo (lo+m)->Q (none,m,0) st):SW X (forIn [1+1:nrem] ((none,1+1,0):zLh) λ_ c=>zId lo c) Q st:=by
 refine E0 (I:=zOz k st lo) ⟨rfl,rfl,hd⟩ h2 (λx c st' hx hxn J=>?_) λc st' J=>?_
 ·obtain⟨rfl,rfl,hd'⟩:=J;have hx1:lo+x<(arrOf st').size:=lF5 (Nat.add_lt_add_left hxn lo) hn
  have hx2:=lF3 (Nat.sub_le (lo+x) 1) hx1;refine Ak (V.lt hx1 hx2 ?_)
  cases hb:decide (KA k (arrOf st') (lo+x)<KA k (arrOf st') (lo+x - 1))with
  |true=>exact B7 (λ_=>B7 (λz=>absurd z (lL7 _)) λ_=>Ar ⟨rfl,rfl,zKL (r:=λi j=>KA k (arrOf st') j<=KA k (arrOf st') i) (λ_=>lN3 _) (λ_ _ _ p q=>lM2 q p) (lM6 hx) hd' (lM1 (lH3 hb))⟩) λz=>absurd rfl z
  |false=>
   refine Ak (V.lt hx2 hx1 ?_)
   rw[zJC hnd hx2 hx1 (by exactλZ=>An [_,_,_] [Cz x2 (.a x1 x0),eq1 (.a x2 (.n 1)) (.a x1 x0)] rT Z (Aq (Cp (Ac (.n 1) (.a x1 x0)) [Ac (.a (.n 1) (.n 1)) x0,Ac (.n 0) x1] rT hx (lq5 _)))) (lN6.mp (lF8 hb))]
   exact Ar (hQ x hx (lM6 hxn) hd')
 ·obtain⟨rfl,rfl,hd'⟩:=J;exact hQ nrem h2 (lN4 _) hd'
theorem zGT{xs:Array Keyed}{lo m:Nat}(hm:lo+m<=xs.size)(hd:zN4 k xs lo (lo+m)):D8 k (mirror xs lo (lo+m) ((lo+m - lo) / 2)) lo (lo+m):=λi j hi hij hj=>by
 rw[S9 hm,S9 hm,lO6 ⟨hi,lF3 hij hj⟩,lO6 ⟨lM7 hi hij,hj⟩];exact hd _ _ (by exact Mr (Ac x0 x1) [Ae x3 (.a x0 x2),Ac (.a x0 (.a x0 x2)) (.a x4 (.n 1)),Ac x4 (.a x1 x3)] rT hj (Ao _ _) (Ao _ _)) (by exact Mr (Ac x0 x1) [Ac x2 x3,Ac x4 (.a x1 x2),eq1 (.a x0 x3) x4] rT hij (Ao _ _) (Aq (Cd (Ac x0 x1) [Ae x0 (.a x2 x3),Ac (.n 0) x2,Ac (.a x2 (.a x2 x3)) (.a x1 (.n 1))] rT hj (lq5 _) (Ao _ _)))) (by exact Mr (Ae x2 (.a x0 x1)) [Ac x0 x3,eq1 (.a x4 (.n 1)) (.a x0 (.a x0 x1)),eq1 (.a x2 x3) x4] rT hi (Aq (Cd (Ac (.n 1) (.a x0 (.a x0 x1))) [Ac x0 x2,Ac x2 x3,Ae x3 (.a x0 x1),Qe 2 (.n 0) x0] rT hi hij hj (lq5 _))) (Aq (Mr (Ac x0 x1) [Ac x0 x2,Ae x2 (.a x3 x4),Ac (.n 0) x3,Ac (.a x3 (.a x3 x4)) (.a x1 (.n 1))] rT hij hj (lq5 _) (Ao _ _))))
theorem Vm{st:SortSt}{lo nrem:Nat}{Q:Option Nat->SortSt->Prop}(V:SV X k κ S st)(hnd:((arrOf st).toList.map k).Nodup)(h1:1<=nrem)(hn:lo+nrem<=(arrOf st).size)
  (h:∀n st',1<=n->n<=nrem->D8 k (arrOf st') lo (lo+n)->Qi st st' lo (lo+nrem)->Q (some n) st'):SW X (countRun' lo nrem) Q st:=by
 have one:D8 k (arrOf st) lo (lo+1):=λi j hi hij hj=>by
  have e:i=j:=by exact Du (λZ=>An [_,_,_] [Ae x0 x1,Ac x2 x0,Ae x1 (.a x2 (.n 1))] rT Z hi hj) (λZ=>An [_,_] [Ae x1 x0,Ac x0 x1] rT Z hij)
  rw[e];exact lN3 _
 rw[zDO];refine Ak (zCc V (lN4 _) h1 hn one λn hn1 hn2 hsn hor=>B7 (λe=>Ar (h n st hn1 hn2 hsn (.refl _ _ _))) λe=>B7 (λhgt=>?_) λhgt=>?_)
 ·have hl:lo+n - 1<(arrOf st).size:=by exact Mr (Ae x1 x0) [Ac (.a x3 x2) x0,Ac x4 x2,eq1 (.a x1 (.n 1)) (.a x3 x4)] rT hn hn2 (Aq (Cp (Ac (.n 1) (.a x0 x1)) [Ae (.n 1) x1,Ac (.n 0) x0] rT hgt (lq5 _)))
  refine Ak (V.lt (i:=lo) (by exact Ck (Ae x0 x1) [Ac (.n 1) x2,Ac (.a x0 x2) x1] rT h1 hn) hl ?_)
  rw[zJC hnd (by exact Ck (Ae x0 x1) [Ac (.n 1) x2,Ac (.a x0 x2) x1] rT h1 hn) hl (by exactλZ=>An [_,_,_] [Cz x0 x1,Ae (.n 1) x2,Ac (.a x0 x2) (.a x1 (.n 1))] rT Z hgt (Ao _ _)) (hsn lo (lo+n - 1) (lN4 _) (by exact Ck (Ac x0 x1) [Ae (.n 1) x2,Ac (.a x0 x2) (.a x1 (.n 1))] rT hgt (Ao _ _)) (by exact Ck (Ae x2 (.a x0 x1)) [eq1 (.a x2 (.n 1)) (.a x0 x1)] rT (Aq (Cp (Ac (.n 1) (.a x0 x1)) [Ae (.n 1) x1,Ac (.n 0) x0] rT hgt (lq5 _)))))]
  exact Ar (h n st hn1 hn2 hsn (.refl _ _ _))
 ·obtain rfl:n=1:=lJ7 (lN7.mp hgt) hn1
  have e:1≠nrem:=Ba e
  have hlt:=hor.resolve_left e;refine Ak (Jw (Ak (zKZ V hnd (lF4 h1 e) hn (zKL (r:=λi j=>KA k (arrOf st) j<=KA k (arrOf st) i) (λ_=>lN3 _) (λ_ _ _ p q=>lM2 q p) (lN4 _) (λi j hi hij hj=>?_) (lM1 hlt)) λm hm1 hm2 hd=>B7 (λz=>absurd z (lL7 _)) λ_=>Ak (zJz ?_))))
  ·have e:i=j:=by exact Du (λZ=>An [_,_,_] [Ae x0 x1,Ac x2 x0,Ae x1 (.a x2 (.n 1))] rT Z hi hj) (λZ=>An [_,_] [Ae x1 x0,Ac x0 x1] rT Z hij)
   rw[e];exact lN3 _
  ·have hm:=lM7 (lE4 hm2 lo) hn;have hC:=(Qi.mirror hm).mono (lN4 lo) (lE4 hm2 lo);exact Ak (zCc (V.chg hC) (Nat.le_of_succ_le hm1) hm2 (by rw[hC.size];exact hn) (zGT hm hd) λn a b c _=>Ar (h n _ (lM7 (Nat.le_of_succ_le hm1) a) b c hC))
end
section
variable {X:SX}{k:Keyed->Int}{κ:SortKind}{S:Keyed->Prop}
theorem zDJ{L:List Keyed}{i:Nat}{p:Keyed}(h:i<L.length):(L.set i p).take (i+1)=L.take i++[p]:=by
 rw[List.take_add_one,List.take_set_of_le (lN4 _),lB8 h];rfl
theorem Wo:∀(l:List Keyed) (n:Nat) (sa:Nat) (xs:Array Keyed),sa+n+l.length<=xs.size->
  ((l.zipIdx n).foldl (λa (x:Keyed×Nat)=>a.setIfInBounds (sa+x.2) x.1) xs).toList=xs.toList.take (sa+n)++l++xs.toList.drop (sa+n+l.length)
 |[],n,sa,xs,h=>by rw[lJ0];exact(lC9 _ _).symm
 |p::l,n,sa,xs,h=>by
  simp only[lI0]at h;rw[List.zipIdx_cons,lJ2,Wo l (n+1) sa _ (by rw[Array.size_setIfInBounds];exact Cd (Ac (.a (.a x0 (.a x1 (.n 1))) x2) x3) [Ac (.a (.a x0 x1) (.a x2 (.n 1))) x3] rT h),Array.toList_setIfInBounds,←lL6,zDJ (by rw[lD9];exact Cd (Ae (.a x0 x1) x2) [Ac (.a (.a x0 x1) (.a x3 (.n 1))) x2,Ac (.n 0) x3] rT h (lq5 _)),List.drop_set_of_lt (by exact Ck (Ae (.a x0 x1) (.a (.a (.a x0 x1) (.n 1)) x2)) [Ac (.n 0) x2] rT (lq5 _)),lI0,lq8,lq8,lq8,lL6 (sa+n) 1,Nat.add_comm 1]
  rfl
theorem Vu{L:List Keyed}{lo hi m:Nat}(h:lo+m<hi):((L.take hi).drop lo)[m]? =L[lo+m]?:=by
 rw[lE9,lB0 h]
theorem zKk(h:∀(i j:Nat) (x y:Keyed),i<j->l[i]? =some x->l[j]? =some y->k x<=k y):Hk k l:=
 lA7.mpr λi j hi hj hij=>h i j _ _ hij (lA9 hi) (lA9 hj)
theorem zKT{L:List Keyed}{lo hi i:Nat}{x:Keyed}(e:((L.take hi).drop lo)[i]? =some x):lo+i<hi:=by
 have:=(lq2 e).1
 rw[lI1,lI2]at this;exact Nat.add_lt_of_lt_sub' (lF5 this (lD8 (Nat.min_le_left _ _) _))
theorem Jx{xs:Array Keyed}{lo hi:Nat}(h:hi<=xs.size):D8 k xs lo hi↔Hk k ((xs.toList.take hi).drop lo):=by
 constructor
 ·intro s;refine zKk λi j x y hij ex ey=>?_
  have hi':=zKT ex;have hj':=zKT ey;have:=s (lo+i) (lo+j) (lI4 _ _) (lE4 (lM6 hij) _) hj'
  rw[Vu hi']at ex;rw[Vu hj']at ey;rwa [Fw (Aw ex),Fw (Aw ey)]at this
 ·intro s i j h1 h2 h3;obtain⟨x,ex⟩:=Bi (a:=xs) (i:=i) (by exact Cd (Ae x1 x0) [Ac x2 x0,Ac x1 x3,Ae x3 x2] rT h h2 h3)
  obtain⟨y,ey⟩:=Bi (a:=xs) (i:=j) (lF5 h3 h)
  rw[Fw (Aw ex),Fw (Aw ey)];refine Lc s (i:=i - lo) (j:=j - lo) (lD8 h2 _) ?_ ?_
  ·rw[Vu (by exact Mr (Ae (.a x1 x2) x0) [Ac x3 x4,Ae x4 x0,eq1 (.a x2 x1) x3] rT h2 h3 (Aq (h1))),lE5 h1];exact ex
  ·rw[Vu (by exact Cd (Ae (.a x1 x2) x0) [Ae x3 x0,eq1 (.a x2 x1) x3] rT h3 (Aq (lM7 h1 h2))),lE5 (lM7 h1 h2)];exact ey
theorem Tc{L:List Keyed}{a b c:Nat}(h1:a<=b)(h2:b<=c)(h3:c<=L.length):(L.take c).drop a=(L.take b).drop a++(L.take c).drop b:=by
 have hl:(L.take b).length=b:=List.length_take_of_le (lM7 h2 h3)
 conv=>lhs;rw[J9 h2,lA0 (lM7 h1 (lM5 (Eq.symm hl)))]
theorem zBH{l:List Keyed}{a b c:Nat}(h1:a<=b)(h2:b<=c):l=l.take a++((l.take b).drop a++(l.take c).drop b)++l.drop c:=by
 have e1:l.take c=l.take b++(l.take c).drop b:=J9 h2
 have e2:l.take b=l.take a++(l.take b).drop a:=J9 h1
 rw[←lq8,←e2,←e1,lC9]
theorem zA9(sA:Hk k A)(sB:Hk k B)(h1:∀x,x∈A->k x<=k p)(h2:∀y,y∈B->k p<=k y):Hk k (A++B):=
 lD7.mpr ⟨sA,sB,λx hx y hy=>lM2 (h1 x hx) (h2 y hy)⟩
theorem zFD(sA:Hk k (A1++A2))(sB:Hk k (B1++B2))(m:F4 k A2 B1 M)(h1:∀x,x∈A1->k x<=k pb)(h2:∀y,y∈B1++B2->k pb<=k y)(h3:∀x,x∈A1++A2->k x<=k pa)(h4:∀y,y∈B2->k pa<=k y):Hk k (A1++M++B2):=by
 have a:=lD7.mp sA;have b:=lD7.mp sB;have hm:∀x,x∈M->x∈A2∨x∈B1:=λx hx=>lJ6.mp (m.1.mem_iff.mp hx)
 refine lD7.mpr ⟨lD7.mpr ⟨a.1,m.2,λx hx y hy=>?_⟩,b.2.1,λx hx y hy=>?_⟩
 ·rcases hm y hy with hy|hy
  ·exact a.2.2 x hx y hy
  ·exact lM2 (h1 x hx) (h2 y (lD4 _ hy))
 ·rcases lJ6.mp hx with hx|hx
  ·exact lM2 (h3 x (lD4 _ hx)) (h4 y hy)
  ·rcases hm x hx with hx|hx
   ·exact lM2 (h3 x (lC6 _ hx)) (h4 y hy)
   ·exact b.2.2 x hx y hy
theorem zEq{L M:List Keyed}{p q lo hi:Nat}(h1:lo<=p)(h2:p<=q)(h3:q<=hi)(h4:hi<=L.length)(hM:M.length=q - p):((L.take p++M++L.drop q).take hi).drop lo=(L.take p).drop lo++M++(L.take hi).drop q:=by
 have hl:(L.take p).length=p:=List.length_take_of_le (by exact Cd (Ac x0 x1) [Ac x0 x2,Ac x2 x3,Ac x3 x1] rT h2 h3 h4)
 have hl2:(L.take p++M).length=q:=by rw[lq7,hl,hM];exact Du (λZ=>An [_,_,_] [Ae (.a x0 x2) x1,Ac x1 (.a x2 x0)] rT Z (Ao _ _)) (λZ=>An [_,_,_] [Ae x1 (.a x0 x2),eq1 (.a x2 x0) x1] rT Z (Aq (h2)))
 rw[List.take_append,lC0 (lM7 (lM5 hl2) h3),hl2,lq8,lA0 (lM7 h1 (lM5 (Eq.symm hl))),lq8,←List.drop_take]
theorem zGh{L M:List Keyed}{p q j:Nat}(h2:p<=q)(h4:q<=L.length)(hM:M.length=q - p)(h:j<p∨q<=j):(L.take p++M++L.drop q)[j]? =L[j]?:=by
 have hl:(L.take p).length=p:=List.length_take_of_le (lM7 h2 h4)
 have hl2:(L.take p++M).length=q:=by rw[lq7,hl,hM];exact Du (λZ=>An [_,_,_] [Ae (.a x0 x2) x1,Ac x1 (.a x2 x0)] rT Z (Ao _ _)) (λZ=>An [_,_,_] [Ae x1 (.a x0 x2),eq1 (.a x2 x0) x1] rT Z (Aq (h2)))
 rcases h with h|h
 ·rw[lq8,lA6 (lF5 h (lM5 (Eq.symm hl))),lB0 h]
 ·rw[lA3 (lM7 (lM5 hl2) h),hl2,lE9,lE5 h]
theorem Oh{L:List Keyed}{a b:Nat}(h:b<=L.length):((L.take b).drop a).length=b - a:=by rw[lI1,List.length_take_of_le h]
theorem zHm(H:Qj X k κ S){st:SortSt}{Q:Option Nat->SortSt->Prop}(hk:kindOf st=κ)(hS:∀p,p∈xs.toList->S p)(hz:sa+na<=xs.size)(hna:0<na)(s1:D8 k xs sa (sa+na))(hp:S pb)(h:∀r,r<=na->(∀x,x∈(xs.toList.take (sa+r)).drop sa->k x<=k pb)->(∀x,x∈(xs.toList.take (sa+na)).drop (sa+r)->k pb<=k x)->Q (some r) st):SW X (E7 false pb xs sa na 0) Q st:=by
 refine Gh H hk hp (λj hj=>?_) hna (λj=>!decide (k pb<KA k xs (sa+j))) (λj hj p e=>?_) (λj l hjl hl hb=>?_) λr hr hlow hhigh=>h r hr (λx hx=>?_) λx hx=>?_
 ·obtain⟨p,e⟩:=Bi (a:=xs) (i:=sa+j) (by exact Cd (Ae (.a x0 x2) x1) [Ac (.a x0 x3) x1,Ae x2 x3] rT hz hj)
  exact⟨p,Aw e,hS _ (Df e)⟩
 ·rw[lO5 (λh=>Bool.noConfusion h),Fw e]
 ·have:=s1 (sa+j) (sa+l) (lI4 _ _) (lE4 hjl _) (Nat.add_lt_add_left hl _)
  have h2:=lF8 (lG1 _ |>.mp hb)
  exact(lG1 _).mpr (decide_eq_false λh=>h2 (Int.lt_of_lt_of_le h this))
 ·obtain⟨i,hi,e⟩:=Gg hx;have:=hlow i (lA8 hi)
  rw[Fw (Aw e)]at this;exact lN6.mp (lF8 ((lG1 _).mp this))
 ·obtain⟨i,hi,e⟩:=Gg hx;rw[lL6]at hi e;have:=hhigh (r+i) (lI4 _ _) (lA8 hi)
  rw[Fw (Aw e)]at this;exact lM1 (lH3 ((Bool.not_eq_false' _).mp this))
theorem zG9(H:Qj X k κ S){st:SortSt}{Q:Option Nat->SortSt->Prop}(hk:kindOf st=κ)(hS:∀p,p∈xs.toList->S p)(hz:sb+nb<=xs.size)(hnb:0<nb)(s1:D8 k xs sb (sb+nb))(hp:S pa)(h:∀r,r<=nb->(∀x,x∈(xs.toList.take (sb+r)).drop sb->k x<=k pa)->(∀x,x∈(xs.toList.take (sb+nb)).drop (sb+r)->k pa<=k x)->Q (some r) st):SW X (E7 true pa xs sb nb (nb - 1)) Q st:=by
 refine Gh H hk hp (λj hj=>?_) (Nat.sub_lt hnb lK0) (λj=>decide (KA k xs (sb+j)<k pa)) (λj hj p e=>?_) (λj l hjl hl hb=>?_) λr hr hlow hhigh=>h r hr (λx hx=>?_) λx hx=>?_
 ·obtain⟨p,e⟩:=Bi (a:=xs) (i:=sb+j) (by exact Cd (Ae (.a x0 x2) x1) [Ac (.a x0 x3) x1,Ae x2 x3] rT hz hj)
  exact⟨p,Aw e,hS _ (Df e)⟩
 ·rw[lO6 rfl,Fw e]
 ·have:=s1 (sb+j) (sb+l) (lI4 _ _) (lE4 hjl _) (Nat.add_lt_add_left hl _)
  exact lL1 (lE8 this (lH3 hb))
 ·obtain⟨i,hi,e⟩:=Gg hx;have:=hlow i (lA8 hi)
  rw[Fw (Aw e)]at this;exact lM1 (lH3 this)
 ·obtain⟨i,hi,e⟩:=Gg hx;rw[lL6]at hi e;have:=hhigh (r+i) (lI4 _ _) (lA8 hi)
  rw[Fw (Aw e)]at this;exact lN6.mp (lF8 this)
structure zA6 (k:Keyed->Int)(L:List Keyed)(sa sb hi r r2:Nat)(pa pb:Keyed):Prop where
 h1:sa+r<sb
 h2:0<r2
 h3:sb+r2<=hi
 h4:hi<=L.length
 sA:Hk k ((L.take sb).drop sa)
 sB:Hk k ((L.take hi).drop sb)
 lowA:∀x,x∈(L.take (sa+r)).drop sa->k x<=k pb
 highB:∀x,x∈(L.take hi).drop (sb+r2)->k pa<=k x
 lowB:∀x,x∈(L.take (sb+r2)).drop sb->k x<=k pa
 highA:∀x,x∈(L.take sb).drop (sa+r)->k pb<=k x
 ea:L[sb - 1]? =some pa
 eb:L[sb]? =some pb
theorem zA6.splitA{L:List Keyed}{sa sb hi r r2:Nat}{pa pb:Keyed}(V:zA6 k L sa sb hi r r2 pa pb):(L.take sb).drop sa=(L.take (sa+r)).drop sa++(L.take sb).drop (sa+r):=
 Tc (lI4 _ _) (lM6 V.h1) (lM7 (lI4 _ _) (lM7 V.h3 V.h4))
theorem zA6.splitB{L:List Keyed}{sa sb hi r r2:Nat}{pa pb:Keyed}(V:zA6 k L sa sb hi r r2 pa pb):(L.take hi).drop sb=(L.take (sb+r2)).drop sb++(L.take hi).drop (sb+r2):=
 Tc (lI4 _ _) V.h3 V.h4
theorem zA6.leA{L:List Keyed}{sa sb hi:Nat}{pa:Keyed}(hab:sa<sb)(sA:Hk k ((L.take sb).drop sa))(ea:L[sb - 1]? =some pa):∀x,x∈(L.take sb).drop sa->k x<=k pa:=λx hx=>by
 obtain⟨i,e⟩:=List.getElem?_of_mem hx
 have hi:=zKT e;refine Lc sA (i:=i) (j:=sb - 1 - sa) (by exact Mr (Ac x0 x1) [Ae (.a x2 x0) x3,Ac x3 (.a x4 (.n 1)),Ac x4 (.a x1 x2)] rT hi (Ao _ _) (Ao _ _)) e ?_
 rw[Vu (by exact Cd (Ae (.a x0 x2) x1) [eq1 (.a x3 (.n 1)) x1,eq1 (.a x2 x0) x3] rT (Aq (Cp (Ac (.n 1) x0) [Ae x1 x0,Ac (.n 0) x1] rT hab (lq5 _))) (Aq (Ck (Ac x0 x1) [Ae x0 x2,Ac x2 (.a x1 (.n 1))] rT hab (Ao _ _)))),show sa+(sb - 1 - sa)=sb - 1 by exact Du (λZ=>An [_,_,_] [Ae (.a x0 x1) x2,Ac x2 (.a x1 x0)] rT Z (Ao _ _)) (λZ=>An [_,_,_] [Ae x2 (.a x0 x1),eq1 (.a x1 x0) x2] rT Z (Aq (Ck (Ac x0 x1) [Ae x0 x2,Ac x2 (.a x1 (.n 1))] rT hab (Ao _ _))))];exact ea
theorem zA6.geB{L:List Keyed}{sb hi:Nat}{pb:Keyed}(hab:sb<hi)(sB:Hk k ((L.take hi).drop sb))(eb:L[sb]? =some pb):∀x,x∈(L.take hi).drop sb->k pb<=k x:=λx hx=>by
 refine Ec sB (i:=0) ?_ x hx
 rw[Vu (by exact Cp (Ae (.a x0 (.n 0)) x1) [Ae x0 x1] rT hab)];exact eb
theorem zA6.done{L M:List Keyed}{sa sb hi r r2:Nat}{pa pb:Keyed}(V:zA6 k L sa sb hi r r2 pa pb)(m:F4 k ((L.take sb).drop (sa+r)) ((L.take (sb+r2)).drop sb) M):
  (L.take (sa+r)++M++L.drop (sb+r2)).Perm L/\(∀j,j<sa∨hi<=j->(L.take (sa+r)++M++L.drop (sb+r2))[j]? =L[j]?)/\Hk k (((L.take (sa+r)++M++L.drop (sb+r2)).take hi).drop sa):=by
 have h1:=V.h1;have h2:=V.h2;have h3:=V.h3;have h4:=V.h4;have hM:M.length=sb+r2 - (sa+r):=by
  rw[m.1.length_eq,lq7,Oh (by exact Cd (Ac x0 x1) [Ae (.n 0) x2,Ac (.a x0 x2) x3,Ac x3 x1] rT h2 h3 h4),Oh (lM7 h3 h4)];exact Du (λZ=>An [_,_,_,_,_,_,_] [Ae (.a x0 x1) x2,Ac x5 (.a x0 (.a x3 x4)),Ac (.a x5 x6) (.a x1 x5),eq1 (.a x2 (.a x3 x4)) (.a x5 x6)] rT Z (Ao _ _) (Ao _ _) (Aq (Cd (Ac (.a x0 x1) (.a x2 x3)) [Ae (.a x0 x1) x2,Ae (.n 0) x3] rT h1 h2))) (λZ=>An [_,_,_,_,_,_,_] [Ae x2 (.a x0 x1),Ac (.a x5 x6) (.a x2 (.a x3 x4)),eq1 (.a x0 (.a x3 x4)) x5,eq1 (.a x1 x5) (.a x5 x6)] rT Z (Ao _ _) (Aq (lM6 h1)) (Aq (Cp (Ac x0 (.a x0 x1)) [Ae (.n 0) x1] rT h2)))
 refine⟨?_,λj hj=>zGh (by exact Cd (Ac (.a x0 x1) (.a x2 x3)) [Ae (.a x0 x1) x2,Ae (.n 0) x3] rT h1 h2) (lM7 h3 h4) hM (by(clear hM h4 h2 h1 m V;exact Or.elim hj (λhd1=>.inl (Ck (Ae x0 (.a x1 x2)) [Ae x0 x1,Ac (.n 0) x2] rT hd1 (lq5 _))) (λhd1=>.inr (lM7 h3 hd1)))),?_⟩
 ·have e4:=zBH (l:=L) (a:=sa+r) (b:=sb) (c:=sb+r2) (lM6 h1) (lI4 _ _);conv=>rhs;rw[e4]
  exact(m.1.append_left _).append_right _
 ·simp only[zEq (lI4 _ _) (by exact Cd (Ac (.a x0 x1) (.a x2 x3)) [Ae (.a x0 x1) x2,Ae (.n 0) x3] rT h1 h2) h3 h4 hM];have ha:=zA6.leA (hi:=hi) (by exact Ck (Ae x0 x1) [Ae (.a x0 x2) x1,Ac (.n 0) x2] rT h1 (lq5 _)) V.sA V.ea;have hb:=zA6.geB (by exact Ck (Ae x0 x1) [Ae (.n 0) x2,Ac (.a x0 x2) x1] rT h2 h3) V.sB V.eb;have sA:=V.sA;have sB:=V.sB;rw[V.splitA]at sA ha;rw[V.splitB]at sB hb;exact zFD sA sB m V.lowA hb ha V.highB
noncomputable def zMA (sa na nb sb:Nat)(arr:Array Keyed):StateT SortSt Sem Bool:=do
 let x:=arr.extract sa sb
 let y:=arr.extract sb (sb+nb)
 let out ←if na<=nb then Pz x y else Q0 x y
 modify λs=>setArr s (out.toList.zipIdx.foldl (λa (x:Keyed×Nat)=>a.setIfInBounds (sa+x.2) x.1) (arrOf s))
 let s ←get
 pure (failedOf s).isNone
theorem zCs(H:Qj X k κ S){st:SortSt}{xs:Array Keyed}{sa sb hi r r2 nr:Nat}{pa pb:Keyed}{Q:Bool->SortSt->Prop}(hk:kindOf st=κ)(hx:arrOf st=xs)(hf:failedOf st=none)(hS:∀p,p∈xs.toList->S p)(V:zA6 k xs.toList sa sb hi r r2 pa pb)
  (h:∀st',kindOf st'=kindOf st->failedOf st'=none->pendingOf st'=pendingOf st->(arrOf st').toList.Perm xs.toList->(∀j,j<sa∨hi<=j->(arrOf st')[j]? =xs[j]?)->D8 k (arrOf st') sa hi->Q true st'):
  SW X (zMA (sa+r) nr r2 sb xs) Q st:=by
 have h1:=V.h1;have h2:=V.h2;have h3:=V.h3;have h4:=V.h4;simp only[lD9]at h4;have ex:(xs.extract (sa+r) sb).toList=(xs.toList.take sb).drop (sa+r):=Oe _ _ _
 have ey:(xs.extract sb (sb+r2)).toList=(xs.toList.take (sb+r2)).drop sb:=Oe _ _ _
 have zx:(xs.extract (sa+r) sb).size=sb - (sa+r):=by rw[Array.size_extract,lJ8 (by exact Cd (Ac x0 x1) [Ae (.n 0) x2,Ac (.a x0 x2) x3,Ac x3 x1] rT h2 h3 h4)]
 have zy:(xs.extract sb (sb+r2)).size=r2:=by rw[Array.size_extract,lJ8 (lM7 h3 h4),lB2]
 have sA:=V.sA;have sB:=V.sB;rw[V.splitA]at sA;rw[V.splitB]at sB;have hSx:∀p,p∈(xs.extract (sa+r) sb).toList->S p:=λp m=>by rw[ex]at m;exact hS p (lD6 (List.mem_of_mem_drop m))
 have hSy:∀p,p∈(xs.extract sb (sb+r2)).toList->S p:=λp m=>by rw[ey]at m;exact hS p (lD6 (List.mem_of_mem_drop m))
 have sx:Hk k (xs.extract (sa+r) sb).toList:=by rw[ex];exact(lD7.mp sA).2.1
 have sy:Hk k (xs.extract sb (sb+r2)).toList:=by rw[ey];exact(lD7.mp sB).1
 have hfirst:∀x y,(xs.extract sb (sb+r2)).toList[0]? =some x->(xs.extract (sa+r) sb).toList[0]? =some y->k x<=k y:=λx y e3 e4=>by
  rw[ey,Vu (by exact Cp (Ae (.a x0 (.n 0)) (.a x0 x1)) [Ae (.n 0) x1] rT h2),Nat.add_zero,V.eb]at e3
  cases e3;rw[ex]at e4;exact V.highA y (Df e4)
 have hlast:∀x y,x∈(xs.extract sb (sb+r2)).toList->(xs.extract (sa+r) sb).toList[(xs.extract (sa+r) sb).size - 1]? =some y->k x<=k y:=λx y m e4=>by
  rw[ey]at m;rw[zx,ex,Vu (by exact Mr (Ae (.a (.a x0 x1) x3) x2) [eq1 (.a x4 (.a x0 x1)) x2,eq1 (.a x3 (.n 1)) x4] rT (Aq (lM6 h1)) (Aq (Cd (Ac (.n 1) x0) [Ae (.a x1 x2) x3,Ac x3 (.a x0 (.a x1 x2))] rT h1 (Ao _ _)))),show sa+r+(sb - (sa+r) - 1)=sb - 1 by exact Du (λZ=>An [_,_,_,_,_,_] [Ae (.a (.a x0 x1) x2) x3,Ac x4 (.a x5 (.a x0 x1)),Ac x5 (.a x2 (.n 1)),eq1 (.a x3 (.n 1)) x4] rT Z (Ao _ _) (Ao _ _) (Aq (Ck (Ac (.n 1) x0) [Ae (.a x1 x2) x0,Ac (.n 0) x1,Ac (.n 0) x2] rT h1 (lq5 _) (lq5 _)))) (λZ=>An [_,_,_,_,_,_] [Ae x3 (.a (.a x0 x1) x2),Ac x4 (.a x3 (.n 1)),eq1 (.a x5 (.a x0 x1)) x4,eq1 (.a x2 (.n 1)) x5] rT Z (Ao _ _) (Aq (lM6 h1)) (Aq (Cd (Ac (.n 1) x0) [Ae (.a x1 x2) x3,Ac x3 (.a x0 (.a x1 x2))] rT h1 (Ao _ _)))),V.ea]at e4
  cases e4;exact V.lowB x m
 have behind:∀(out:Array Keyed) (st2:SortSt),F4 k (xs.extract (sa+r) sb).toList (xs.extract sb (sb+r2)).toList out.toList->Fp st st2->
   SW X (do modify λs=>setArr s (out.toList.zipIdx.foldl (λa (x:Keyed×Nat)=>a.setIfInBounds (sa+r+x.2) x.1) (arrOf s));let s ←get;pure (failedOf s).isNone) Q st2:=λout st2 hm hs=>by
  simp only[ex,ey]at hm;have hM:out.toList.length=sb+r2 - (sa+r):=by
   rw[hm.1.length_eq,lq7,Oh (by rw[lD9];exact Cd (Ac x0 x1) [Ae (.n 0) x2,Ac (.a x0 x2) x3,Ac x3 x1] rT h2 h3 h4),Oh (by rw[lD9];exact lM7 h3 h4)];exact Du (λZ=>An [_,_,_,_,_,_,_] [Ae (.a x0 x1) x2,Ac x5 (.a x0 (.a x3 x4)),Ac (.a x5 x6) (.a x1 x5),eq1 (.a x2 (.a x3 x4)) (.a x5 x6)] rT Z (Ao _ _) (Ao _ _) (Aq (Cd (Ac (.a x0 x1) (.a x2 x3)) [Ae (.a x0 x1) x2,Ae (.n 0) x3] rT h1 h2))) (λZ=>An [_,_,_,_,_,_,_] [Ae x2 (.a x0 x1),Ac (.a x5 x6) (.a x2 (.a x3 x4)),eq1 (.a x0 (.a x3 x4)) x5,eq1 (.a x1 x5) (.a x5 x6)] rT Z (Ao _ _) (Aq (lM6 h1)) (Aq (Cp (Ac x0 (.a x0 x1)) [Ae (.n 0) x1] rT h2)))
  have e5:arrOf st2=xs:=hs.2.1.trans hx
  have hfold:=Wo out.toList 0 (sa+r) xs (by exact X6 λZ=>An [_,_,_,_,_,_,_,_] [Ae x2 (.a (.a (.a x0 x1) (.n 0)) x3),Ac (.a x4 x5) x6,Ac x6 x2,eq1 x3 x7,eq1 (.a x7 (.a x0 x1)) (.a x4 x5)] rT Z h3 h4 hM (Aq (Cd (Ac (.a x0 x1) (.a x2 x3)) [Ae (.a x0 x1) x2,Ae (.n 0) x3] rT h1 h2)))
  simp only[hM,Nat.add_zero,show sa+r+(sb+r2 - (sa+r))=sb+r2 by exact Du (λZ=>An [_,_,_,_,_] [Ae (.a (.a x0 x1) x4) (.a x2 x3),Ac (.a x2 x3) (.a x4 (.a x0 x1))] rT Z (Ao _ _)) (λZ=>An [_,_,_,_,_] [Ae (.a x2 x3) (.a (.a x0 x1) x4),eq1 (.a x4 (.a x0 x1)) (.a x2 x3)] rT Z (Aq (Cd (Ac (.a x0 x1) (.a x2 x3)) [Ae (.a x0 x1) x2,Ae (.n 0) x3] rT h1 h2)))]at hfold
  obtain⟨d1,d2,d3⟩:=V.done hm;rw[←hfold]at d1 d2 d3;have dz:=d1.length_eq;simp only[lD9,lD9]at dz;refine Ak (Gk (Ak (I7 ?_)))
  have hq:=h (setArr st2 (out.toList.zipIdx.foldl (λa (x:Keyed×Nat)=>a.setIfInBounds (sa+r+x.2) x.1) (arrOf st2))) hs.1 (hs.2.2.2.trans hf) hs.2.2.1 (by rw[e5];exact d1)
   (λj hj=>by rw[e5];have:=d2 j hj;rwa [lC2,lC2]at this)
   (by rw[e5];exact(Jx (lM7 h4 (lM5 dz.symm))).mpr d3)
  have hfn:(failedOf st2).isNone=true:=by rw[show failedOf st2=none from hs.2.2.2.trans hf];rfl
  rw[←hfn]at hq;exact Ar hq
 have px:0<(xs.extract (sa+r) sb).size:=by rw[zx];exact Cd (Ae (.n 0) x0) [Ae (.a x1 x2) x3,Ac x3 (.a x0 (.a x1 x2))] rT h1 (Ao _ _)
 have py:0<(xs.extract sb (sb+r2)).size:=by rw[zy];exact h2
 refine B7 (c:=nr<=r2) (λ_=>Ak ?_) λ_=>Ak ?_
 ·exact Xw H hk hSx hSy sx sy px py hfirst hlast behind
 ·exact Xf H hk hSx hSy sx sy px py hfirst hlast behind
theorem X9(H:Qj X k κ S){st:SortSt}{i sa na pw sb nb pw2:Nat}{Q:Bool->SortSt->Prop}(hk:kindOf st=κ)(hS:∀p,p∈(arrOf st).toList->S p)(hf:failedOf st=none)
  (e1:(pendingOf st)[i]? =some (sa,na,pw)) (e2:(pendingOf st)[i+1]? =some (sb,nb,pw2)) (hab:sa+na=sb) (hna:0<na) (hnb:0<nb) (hz:sb+nb<=(arrOf st).size)
  (s1:D8 k (arrOf st) sa sb) (s2:D8 k (arrOf st) sb (sb+nb))
  (h:∀st',kindOf st'=kindOf st->failedOf st'=none->pendingOf st'=((pendingOf st).setIfInBounds i (sa,na+nb,pw)).eraseIdxIfInBounds (i+1)->(arrOf st').toList.Perm (arrOf st).toList->
   (∀j,j<sa∨sb+nb<=j->(arrOf st')[j]? =(arrOf st)[j]?)->D8 k (arrOf st') sa (sb+nb)->Q true st'):SW X (mergeAt' i) Q st:=by
 subst hab;have hz1:sa+na<=(arrOf st).size:=by exact Cd (Ac (.a x1 x0) x2) [Ae (.n 0) x3,Ac (.a (.a x1 x0) x3) x2] rT hnb hz
 have sA:=(Jx hz1).mp s1;have sB:=(Jx hz).mp s2;obtain⟨pb,epb⟩:=Bi (a:=arrOf st) (i:=sa+na) (by exact Cd (Ae (.a x1 x0) x2) [Ae (.n 0) x3,Ac (.a (.a x1 x0) x3) x2] rT hnb hz)
 obtain⟨pa,epa⟩:=Bi (a:=arrOf st) (i:=sa+na - 1) (by exact Mr (Ae x1 x0) [Ae (.n 0) x2,Ac (.a (.a x4 x3) x2) x0,Ac x1 (.a x4 x3)] rT hnb hz (Eb _ _))
 have ha:=zA6.leA (hi:=sa+na+nb) (by exact Cp (Ae x1 (.a x1 x0)) [Ae (.n 0) x0] rT hna) sA epa;have hb:=zA6.geB (by exact Ck (Ae (.a x2 x0) (.a (.a x2 x0) x1)) [Ae (.n 0) x1] rT hnb) sB epb;have stay:Hk k (((arrOf st).toList.take (sa+na)).drop sa++((arrOf st).toList.take (sa+na+nb)).drop (sa+na))->Q true (setPending st (((pendingOf st).setIfInBounds i (sa,na+nb,pw)).eraseIdxIfInBounds (i+1))):=λg=>
  h _ rfl hf rfl (.refl _) (λ_ _=>rfl) ((Jx hz).mpr (by rw[Tc (lI4 _ _) (lI4 _ _) (by rw[lD9];exact hz)];exact g))
 unfold mergeAt';refine Ak (I7 ?_)
 rw[e1,e2];refine Ak (zK5 (Ak (C9 (Aw epb) (Ak (zHm H hk hS hz1 hna s1 (hS _ (Df epb)) λr hr l1 g1=>?_)))))
 refine B7 (λc1=>Ar (stay ?_)) λc1=>?_
 ·have:r=na:=by have:=Bh c1;exact Du (λZ=>An [_,_,_] [Ae x1 x0,eq1 x2 (.n 0),Ac x0 (.a x2 x1)] rT Z this (Ao _ _)) (λZ=>An [_,_] [Ae x0 x1,Ac x1 x0] rT Z hr)
  subst this;exact zA9 sA sB l1 hb
 have c1':r<na:=by have:=Ba c1;(clear c1 g1 l1 hr stay hb ha epa epb sB sA hz1 h s2 s1 hz e2 hnb hna e1 hf hS hk H;omega)
 have hea:sa+r+(na - r) - 1=sa+na - 1:=by exact Du (λZ=>An [_,_,_,_,_,_] [Ae x0 x1,Ac x2 (.a x4 x3),Ac (.a (.a x5 x3) x4) (.a x0 (.n 1)),eq1 (.a x1 (.n 1)) (.a x5 x2)] rT Z (Ao _ _) (Ao _ _) (Aq (Cp (Ac (.n 1) (.a x1 x0)) [Ae (.n 0) x0,Ac (.n 0) x1] rT hna (lq5 _)))) (λZ=>An [_,_,_,_,_,_] [Ae x1 x0,Ac (.a x3 x2) (.a x1 (.n 1)),eq1 (.a x5 x4) x2,eq1 (.a x0 (.n 1)) (.a (.a x3 x4) x5)] rT Z (Ao _ _) (Aq (hr)) (Aq (Cd (Ac (.n 1) (.a (.a x0 x1) x2)) [Ae (.n 0) x3,Ac (.n 0) x0,Ac x3 (.a x2 x1)] rT hna (lq5 _) (Ao _ _))))
 refine Ak (C9 (p:=pa) (by rw[hea];exact Aw epa) (Ak (zG9 H hk hS hz hnb s2 (hS _ (Df epa)) λr2 hr2 l2 g2=>?_)))
 refine B7 (λc2=>Ar (stay ?_)) λc2=>?_
 ·have:r2=0:=Bh c2
  subst this;exact zA9 sA sB ha g2
 have V:zA6 k (arrOf st).toList sa (sa+na) (sa+na+nb) r r2 pa pb:=⟨by exact Ck (Ae (.a x1 x2) (.a x1 x0)) [Ae x2 x0] rT c1',lF7 (Ba c2),by exact Cd (Ac (.a (.a x2 x0) x3) (.a (.a x2 x0) x1)) [Ac x3 x1] rT hr2,by rw[lD9];exact hz,sA,sB,l1,g2,l2,g1,epa,epb⟩
 exact zCs (nr:=na - r) H (st:=setPending st (((pendingOf st).setIfInBounds i (sa,na+nb,pw)).eraseIdxIfInBounds (i+1))) hk rfl hf hS V λst' q1 q2 q3 q4 q5 q6=>h st' q1 q2 q3 q4 q5 q6
end
section
variable {X:SX}{k:Keyed->Int}{κ:SortKind}{S:Keyed->Prop}
noncomputable def D4 (k:Keyed->Int)(xs:Array Keyed):List (Nat×Nat×Nat)->Nat->Nat->Prop
 |[],s,e=>s=e
 |q::r,s,e=>q.1=s/\0<q.2.1/\D8 k xs s (s+q.2.1)/\D4 k xs r (s+q.2.1) e
theorem D4.le:∀{l:List (Nat×Nat×Nat)}{s e:Nat},D4 k xs l s e->s+l.length<=e
 |[],s,e,h=>by have:s=e:=h;simp;exact lM5 this
 |q::r,s,e,h=>by
  have:=D4.le h.2.2.2
  have:=h.2.1
  simp;lia
theorem D4.congr:∀{l:List (Nat×Nat×Nat)}{s e:Nat},D4 k xs l s e->(∀j,s<=j->j<e->ys[j]? =xs[j]?)->D4 k ys l s e
 |[],s,e,h,_=>h
 |q::r,s,e,h,hc=>by
  have hle:=D4.le h.2.2.2;refine⟨h.1,h.2.1,λi j h1 h2 h3=>?_,D4.congr h.2.2.2 λj h1 h2=>hc j (by exact Ck (Ac x0 x1) [Ac (.a x0 x2) x1,Ac (.n 0) x2] rT h1 (lq5 _)) h2⟩
  simp only[Eh (hc i (h1) (by exact zE5 λZ=>An [_,_,_,_,_,_] [Ac x0 x1,Ac (.a (.a x2 x3) x4) x0,Ac x1 x5,Ae x5 (.a x2 x3),Ac (.n 0) x4] rT Z hle h2 h3 (lq5 _))),Eh (hc j (lM7 h1 h2) (by exact Mr (Ae x1 x0) [Ac (.a (.a x2 x3) x4) x0,Ae x1 (.a x2 x3),Ac (.n 0) x4] rT hle h3 (lq5 _)))]
  exact h.2.2.1 i j h1 h2 h3
theorem D4.app:∀{l m:List (Nat×Nat×Nat)}{s e:Nat},D4 k xs (l++m) s e↔∃u,D4 k xs l s u/\D4 k xs m u e
 |[],m,s,e=>⟨λh=>⟨s,rfl,h⟩,λ⟨u,h1,h2⟩=>by have:s=u:=h1;subst this;exact h2⟩
 |q::r,m,s,e=>by
  constructor
  ·intro h0z;apply yo;intro _ k0
   obtain⟨h1,h2,h3,h4⟩:=h0z;apply k0
   obtain⟨u,h5,h6⟩:=D4.app.mp h4;exact⟨u,⟨h1,h2,h3,h5⟩,h6⟩
  ·rintro⟨u,⟨h1,h2,h3,h5⟩,h6⟩
   exact⟨h1,h2,h3,D4.app.mpr ⟨u,h5,h6⟩⟩
theorem D4.modify{pw:Nat}:∀{l:List (Nat×Nat×Nat)}{s e:Nat}(i:Nat),D4 k xs l s e->D4 k xs (l.modify i λq=>(q.1,q.2.1,pw)) s e
 |[],s,e,i,h=>by simpa using h
 |q::r,s,e,0,h=>h
 |q::r,s,e,i+1,h=>⟨h.1,h.2.1,h.2.2.1,D4.modify i h.2.2.2⟩
theorem zDy{α:Type}:∀{l:List α}{i:Nat}{x y:α},l[i]? =some x->l[i+1]? =some y->∃a b,l=a++x::y::b/\a.length=i
 |[],i,x,y,h,_=>by simp at h
 |z::l,0,x,y,h1,h2=>by
  simp at h1 h2
  cases l with
  |nil=>simp at h2
  |cons w l=>simp at h2;exact⟨[],l,by rw[h1,h2];rfl,rfl⟩
 |z::l,i+1,x,y,h1,h2=>by
  simp at h1 h2
  obtain⟨a,b,e,n⟩:=zDy h1 h2;exact⟨z::a,b,by rw[e];rfl,by simp[n]⟩
theorem zCM{α:Type}(a b:List α)(x y v:α):((a++x::y::b).set a.length v).eraseIdx (a.length+1)=a++v::b:=by
 rw[lC8 _ _ (lN4 _),lN1,List.eraseIdx_append_of_length_le (by exact lI4 _ _)];simp
theorem zKz{c:Prop}[Decidable c](ha:a+1<n)(hb:b+1<n):(if c then a else b)+1<n:=by split<;>assumption
structure zID (k:Keyed->Int)(κ:SortKind)(a₀:List Keyed)(st:SortSt):Prop where
 perm:(arrOf st).toList.Perm a₀
 kind:kindOf st=κ
 failed:failedOf st=none
theorem zID.size{st:SortSt}(h:zID k κ a₀ st):(arrOf st).size=a₀.length:=by have:=h.perm.length_eq;simpa using this
theorem M4(H:Qj X k κ S)(hS:∀p,p∈a₀->S p){st:SortSt}{Q:Bool->SortSt->Prop}(O:zID k κ a₀ st)(R:D4 k (arrOf st) (pendingOf st).toList 0 e)(he:e<=a₀.length)(hi:i+1<(pendingOf st).size)(h:∀st',zID k κ a₀ st'->D4 k (arrOf st') (pendingOf st').toList 0 e->(pendingOf st').size+1=(pendingOf st).size->(∀j,e<=j->(arrOf st')[j]? =(arrOf st)[j]?)->Q true st'):SW X (mergeAt' i) Q st:=by
 have hi0:i<(pendingOf st).size:=by exact Cp (Ae x0 x1) [Ae (.a x0 (.n 1)) x1] rT hi
 have g1:(pendingOf st).toList[i]? =some (pendingOf st)[i]:=by simp[hi0]
 have g2:(pendingOf st).toList[i+1]? =some (pendingOf st)[i+1]:=by simp[hi]
 apply yo;intro _ k0
 obtain⟨A,B,eAB,hlen⟩:=zDy g1 g2;obtain⟨⟨sa,na,pw⟩,ea⟩:∃x,x=(pendingOf st)[i]:=⟨_,rfl⟩
 obtain⟨⟨sb,nb,pw2⟩,eb⟩:∃x,x=(pendingOf st)[i+1]:=⟨_,rfl⟩
 apply k0
 simp only[←ea,←eb]at eAB;have R':=R;rw[eAB]at R';apply yo;intro _ k0
 obtain⟨u,RA,RB⟩:=D4.app.mp R';obtain⟨h1,h2,h3,h4,h5,h6,h7⟩:=RB;apply k0
 dsimp only at h1 h2 h3 h4 h5 h6 h7;have hle:=h7.le;have hleA:=RA.le;subst h1;subst h4;have hz:=O.size;refine X9 H (sa:=sa) (na:=na) (pw:=pw) (sb:=sa+na) (nb:=nb) (pw2:=pw2) O.kind (λp m=>hS p (O.perm.mem_iff.mp m)) O.failed (by rw[ea];simp[hi0]) (by rw[eb];simp[hi]) rfl h2 h5 (by exact X6 λZ=>An [_,_,_,_,_,_,_] [Ae x3 (.a (.a x2 x0) x1),Ac x4 x5,Ac (.a (.a (.a x2 x0) x1) x6) x4,Cz x3 x5,Ac (.n 0) x6] rT Z he hle hz (lq5 _)) h3 h6 λst' q1 q2 q3 q4 q5 q6=>?_
 have ep:(pendingOf st').toList=A++(sa,na+nb,pw)::B:=by
  rw[q3];have:(((pendingOf st).setIfInBounds i (sa,na+nb,pw)).eraseIdxIfInBounds (i+1)).toList=((pendingOf st).toList.set i (sa,na+nb,pw)).eraseIdx (i+1):=by simp
  rw[this,eAB,←hlen];exact zCM A B _ _ _
 refine h st' ⟨q4.trans O.perm,q1.trans O.kind,q2⟩ ?_ ?_ λj hj=>q5 j (by exact .inr (X6 λZ=>An [_,_,_,_,_,_] [Ae x3 (.a (.a x2 x0) x1),Ac (.a (.a (.a x2 x0) x1) x5) x4,Ac x4 x3,Ac (.n 0) x5] rT Z hle hj (lq5 _)))
 ·rw[ep];refine D4.app.mpr ⟨sa,RA.congr λj _ hj=>q5 j (by exact .inl (hj)),rfl,by exact Cp (Ae (.n 0) (.a x0 x1)) [Ae (.n 0) x0,Ae (.n 0) x1] rT h2 h5,?_,?_⟩
  ·show D8 k (arrOf st') sa (sa+(na+nb))
   rw[←lL6];exact q6
  ·show D4 k (arrOf st') B (sa+(na+nb)) e
   rw[←lL6];exact h7.congr λj hj _=>q5 j (by exact .inr (hj))
 ·have e1:=lO2 List.length ep;have e2:=lO2 List.length eAB;simp at e1 e2
  exact Du (λZ=>An [_,_,_,_] [Ae (.a x1 (.n 1)) x0,Cz x1 (.a x2 (.a x3 (.n 1))),eq1 x0 (.a x2 (.a (.a x3 (.n 1)) (.n 1)))] rT Z e1 e2) (λZ=>An [_,_,_,_] [Ae x0 (.a x1 (.n 1)),eq1 x1 (.a x2 (.a x3 (.n 1))),Cz x0 (.a x2 (.a (.a x3 (.n 1)) (.n 1)))] rT Z e1 e2)
noncomputable abbrev zE9:=Option Unit×Nat
noncomputable abbrev zFt:=Option Unit×Unit
noncomputable def zMS (pw:Nat):StateT SortSt Sem (ForInStep zFt):=do
 let s ←get
 match(if(pendingOf s).size>1 then(pendingOf s)[(pendingOf s).size - 2]? else none)with
 |some (_,_,older)=>
  if older<=pw then pure (.done (none,()))
  else do
   let b ←mergeAt' ((pendingOf s).size - 2)
   if(!b)=true then pure (.done (some (),()))else pure (.yield (none,()))
 |_=>pure (.done (none,()))
noncomputable def zEY (lo n:Nat):StateT SortSt Sem (ForInStep zE9):=do
 modify λs=>setPending s ((pendingOf s).push (lo,n,0))
 pure (.yield (none,lo+n))
noncomputable def Yb (size lo n:Nat):StateT SortSt Sem (ForInStep zE9):=do
 let s ←get
 match(pendingOf s).back? with
 |some (s1,n1,_)=>do
  let r ←forIn [0:size] ((none,()):zFt) λ_ _=>zMS (power' size (2*s1+n1) (2*s1+n1+n1+n) size)
  match r.1 with
  |some v=>pure (.done (some v,lo))
  |none=>do
   modify λs=>setPending s ((pendingOf s).modify ((pendingOf s).size - 1) λ(st,len,_)=>(st,len,power' size (2*s1+n1) (2*s1+n1+n1+n) size))
   zEY lo n
 |_=>zEY lo n
noncomputable def zIz (size mr lo:Nat):StateT SortSt Sem (ForInStep zE9):=
 if lo≥size then pure (.done (none,lo))
 else do
  match ←countRun' lo (size - lo)with
  |some n=>
   if n<mr then do
    liftM (rule "list.sort.binary-insertion")
    let b ←binarySort' lo (min (size - lo) mr) n
    if(!b)=true then pure (.done (some (),lo))else Yb size lo (min (size - lo) mr)
   else Yb size lo n
  |_=>pure (.done (some (),lo))
noncomputable def zC0:StateT SortSt Sem (ForInStep zFt):=do
 let s ←get
 if(pendingOf s).size<=1 then pure (.done (none,()))
 else do
  let b ←mergeAt' (if(if(pendingOf s).size - 2>0 then(pendingOf s)[(pendingOf s).size - 2 - 1]?.map (·.2.1)else none).any (· <((pendingOf s)[(pendingOf s).size - 2+1]?.elim 0 (·.2.1)))then(pendingOf s).size - 2 - 1 else(pendingOf s).size - 2)
  if(!b)=true then pure (.done (some (),()))else pure (.yield (none,()))
theorem zDb:sortRuns'=(do
  let s ←get
  let r ←forIn [0:(arrOf s).size] ((none,0):zE9) λ_ c=>zIz (arrOf s).size (minRun' (arrOf s).size (arrOf s).size 0) c.2
  match r.1 with
  |some v=>pure v
  |none=>do
   let r ←forIn [0:(arrOf s).size] ((none,()):zFt) λ_ _=>zC0
   match r.1 with
   |some v=>pure v
   |none=>pure ()):=by kernel_rfl
structure X8 (k:Keyed->Int)(κ:SortKind)(a₀:List Keyed)(lo:Nat)(st:SortSt):Prop where
 O:zID k κ a₀ st
 R:D4 k (arrOf st) (pendingOf st).toList 0 lo
inductive zPA (k:Keyed->Int)(κ:SortKind)(a₀:List Keyed)(lo m:Nat)(c:zFt)(st':SortSt):Prop
 |mk (e:c.1=none) (V:X8 k κ a₀ lo st') (h:D8 k (arrOf st') lo (lo+m))
inductive zOT (k:Keyed->Int)(κ:SortKind)(a₀:List Keyed)(x:Nat)(c:zE9)(st':SortSt):Prop
 |mk (e:c.1=none) (V:X8 k κ a₀ c.2 st') (h:c.2<=a₀.length) (g:c.2=a₀.length∨x<=c.2)
noncomputable def zNj (k:Keyed->Int)(κ:SortKind)(a₀:List Keyed)(x:Nat)(Q:zE9->SortSt->Prop):ForInStep zE9->SortSt->Prop
 |.done c',st'=>Q c' st'
 |.yield c',st'=>zOT k κ a₀ (x+1) c' st'
inductive zOu (k:Keyed->Int)(κ:SortKind)(a₀:List Keyed)(x:Nat)(c:zFt)(st':SortSt):Prop
 |mk (e:c.1=none) (V:X8 k κ a₀ a₀.length st') (h:(pendingOf st').size+x<=a₀.length∨(pendingOf st').size<=1)
section
variable {a₀:List Keyed}
theorem zJe(H:Qj X k κ S)(hS:∀p,p∈a₀->S p){lo m pw sz:Nat}(hlo:lo<=a₀.length){st:SortSt}{Q:zFt->SortSt->Prop}(V:X8 k κ a₀ lo st)(hs:D8 k (arrOf st) lo (lo+m))(hQ:∀st',X8 k κ a₀ lo st'->D8 k (arrOf st') lo (lo+m)->Q (none,()) st'):
  SW X (forIn [0:sz] ((none,()):zFt) λ_ _=>zMS pw) Q st:=by
 refine E0 (I:=λ_=>zPA k κ a₀ lo m) ⟨rfl,V,hs⟩ (lq5 _) (λy c st4 _ hy J=>?_) λc st4 J=>?_
 ·obtain⟨e,V4,hs4⟩:=J;refine Ak (I7 ?_)
  by_cases g:(pendingOf st4).size>1
  ·rw[lO6 g,Array.getElem?_eq_getElem (Nat.sub_lt (lM9 lK0 g) Nat.zero_lt_two)];refine B7 (λ_=>Ar (hQ st4 V4 hs4)) λ_=>Ak (M4 H hS V4.O V4.R hlo (by exact Cp (Ae (.a x1 (.n 1)) x0) [eq1 (.a x1 (.n 2)) x0] rT (Aq (g))) λst5 O5 R5 _ hk5=>B7 (λz=>by cases z) λ_=>Ar ⟨rfl,⟨O5,R5⟩,λi j h1 h2 h3=>?_⟩)
   rw[Eh (hk5 i h1),Eh (hk5 j (lM7 h1 h2))];exact hs4 i j h1 h2 h3
  ·rw[lO5 g];exact Ar (hQ st4 V4 hs4)
 ·obtain⟨e,V4,hs4⟩:=J;obtain⟨c1,c2⟩:=c
  cases(show c1=none from e)
  exact hQ st4 V4 hs4
theorem zCY{lo m x:Nat}{st:SortSt}(O:zID k κ a₀ st)(R:D4 k (arrOf st) (pendingOf st).toList 0 lo)(hs:D8 k (arrOf st) lo (lo+m))(h1:0<m)(h2:lo+m<=a₀.length)(h3:x<=lo){Q:zE9->SortSt->Prop}:
  SW X (zEY lo m) (zNj k κ a₀ x Q) st:=by
 refine Ak (Gk (Ar ⟨rfl,⟨⟨O.perm,O.kind,O.failed⟩,?_⟩,h2,.inr (Nat.add_le_add h3 h1)⟩))
 show D4 k (arrOf st) ((pendingOf st).push (lo,m,0)).toList 0 (lo+m)
 rw[lG0];exact D4.app.mpr ⟨lo,R,rfl,h1,hs,rfl⟩
theorem Zj(H:Qj X k κ S)(hS:∀p,p∈a₀->S p){sz lo m x:Nat}{st:SortSt}(V:X8 k κ a₀ lo st)(hs:D8 k (arrOf st) lo (lo+m))(h1:0<m)(h2:lo+m<=a₀.length)(h3:x<=lo){Q:zE9->SortSt->Prop}:
  SW X (Yb sz lo m) (zNj k κ a₀ x Q) st:=by
 refine Ak (I7 ?_)
 cases(pendingOf st).back? with
 |none=>exact zCY V.O V.R hs h1 h2 h3
 |some q=>
  refine Ak (zJe H hS (lM7 (lI4 _ _) h2) V hs λst4 V4 hs4=>Ak (Gk ?_))
  refine zCY (Q:=Q) (st:=setPending st4 ((pendingOf st4).modify ((pendingOf st4).size - 1) λ(st,len,_)=>(st,len,power' sz (2*q.1+q.2.1) (2*q.1+q.2.1+q.2.1+m) sz))) ⟨V4.O.perm,V4.O.kind,V4.O.failed⟩ ?_ hs4 h1 h2 h3
  show D4 k (arrOf st4) ((pendingOf st4).modify ((pendingOf st4).size - 1) _).toList 0 lo
  rw[Array.toList_modify];exact V4.R.modify _
theorem X8.chg{lo hi:Nat}{st st':SortSt}(V:X8 k κ a₀ lo st)(hC:Qi st st' lo hi):X8 k κ a₀ lo st':=⟨⟨hC.perm.trans V.O.perm,hC.kind.trans V.O.kind,hC.failed.trans V.O.failed⟩,by rw[hC.pend];exact V.R.congr λj _ hj=>hC.out j (.inl hj)⟩
theorem X8.sv{lo:Nat}{st:SortSt}(H:Qj X k κ S)(hS:∀p,p∈a₀->S p)(V:X8 k κ a₀ lo st):SV X k κ S st:=⟨H,V.O.kind,λp m=>hS p (V.O.perm.mem_iff.mp m)⟩
theorem zKO(H:Qj X k κ S)(hS:∀p,p∈a₀->S p)(hnd:(a₀.map k).Nodup){mr x:Nat}{c:zE9}{st:SortSt}(J:zOT k κ a₀ x c st){Q:zE9->SortSt->Prop}(hQ:X8 k κ a₀ a₀.length st->Q (none,a₀.length) st):
  SW X (zIz a₀.length mr c.2) (zNj k κ a₀ x Q) st:=by
 obtain⟨e,V,h,g⟩:=J;generalize c.2=lo at V h g
 have hz:=V.O.size;refine B7 (λc1=>?_) λc1=>?_
 ·obtain rfl:lo=a₀.length:=lJ7 h c1
  exact Ar (hQ V)
 ·have hx:x<=lo:=g.resolve_left λz=>c1 (lM5 z.symm)
  refine Ak (Vm (V.sv H hS) ((V.O.perm.map k).nodup_iff.mpr hnd) (Nat.sub_pos_of_lt (Nat.lt_of_not_le c1)) (by rw[hz,lE5 h];exact lN4 _) λn st2 hn1 hn2 hs2 hC2=>?_)
  have V2:=V.chg hC2;have hln:lo+n<=a₀.length:=by exact Cd (Ac (.a x0 x2) x1) [Ac x2 x3,eq1 (.a x3 x0) x1] rT hn2 (Aq (h))
  refine B7 (λc2=>Ak (Jw ?_)) λ_=>Zj H hS V2 hs2 hn1 hln hx
  have hn:n<=min (a₀.length - lo) mr:=Nat.le_min.mpr ⟨hn2,lM6 c2⟩
  have hf:lo+min (a₀.length - lo) mr<=a₀.length:=by lia
  refine Ak (Qy (V2.sv H hS) (by rw[V2.O.size];exact hf) hn (lM7 hn1 hn) hs2 λst3 hs3 hC3=>B7 (λz=>by cases z) λ_=>Zj H hS (V2.chg hC3) hs3 (lF5 hn1 hn) hf hx)
theorem zG6(H:Qj X k κ S)(hS:∀p,p∈a₀->S p){st:SortSt}{Q:zFt->SortSt->Prop}(V:X8 k κ a₀ a₀.length st)(hQ:∀st',X8 k κ a₀ a₀.length st'->(pendingOf st').size<=1->Q (none,()) st'):SW X (forIn [0:a₀.length] ((none,()):zFt) λ_ _=>zC0) Q st:=by
 refine E0 (I:=zOu k κ a₀) ⟨rfl,V,.inl ?_⟩ (lq5 _) (λx c st2 _ hx J=>?_) λc st2 J=>?_
 ·have:=V.R.le
  rw[lN2,lD9]at this;exact this
 ·obtain⟨e,V2,hp⟩:=J;refine Ak (I7 (B7 (λg=>Ar (hQ st2 V2 g)) λg=>Ak (M4 H hS V2.O V2.R (lN4 _) ?_ λst5 O5 R5 hsz _=>B7 (λz=>by cases z) λ_=>Ar ⟨rfl,⟨O5,R5⟩,.inl ?_⟩)))
  ·exact zKz (n:=(pendingOf st2).size) (a:=(pendingOf st2).size - 2 - 1) (b:=(pendingOf st2).size - 2) (by exact Ck (Ae (.a x1 (.n 1)) x0) [Ac x1 x2,eq1 (.a x2 (.n 2)) x0] rT (Eb _ _) (Aq ((Nat.not_le.mp g)))) (by exact Cp (Ae (.a x1 (.n 1)) x0) [eq1 (.a x1 (.n 2)) x0] rT (Aq ((Nat.not_le.mp g))))
  ·rcases hp with hp|hp
   ·rw[←hsz]at hp;exact Ck (Ac (.a x2 (.a x0 (.n 1))) x1) [Ac (.a (.a x2 (.n 1)) x0) x1] rT hp
   ·exact absurd hp g
 ·obtain⟨e,V2,hp⟩:=J;obtain⟨c1,c2⟩:=c
  cases(show c1=none from e)
  exact hQ st2 V2 (by exact Or.elim hp (λhd3=>Cp (Ac x0 (.n 1)) [Ac (.a x0 x1) x1] rT hd3) (λhd3=>hd3))
theorem zHG{xs:Array Keyed}{P:List (Nat×Nat×Nat)}{n:Nat}(h:P.length<=1)(R:D4 k xs P 0 n):D8 k xs 0 n:=by
 cases P with
 |nil=>
  have e:0=n:=R
  exactλi j _ _ h3=>absurd h3 (by rw[←e];exact lJ9 _)
 |cons q P=>
  cases P with
  |cons _ _=>exact absurd h (by simp)
  |nil=>
   have h1:0+q.2.1=n:=R.2.2.2
   have h2:=R.2.2.1;rw[h1]at h2;exact h2
theorem Uq(H:Qj X k κ S)(hS:∀p,p∈a₀->S p)(hnd:(a₀.map k).Nodup){st:SortSt}{Q:Unit->SortSt->Prop}(O:zID k κ a₀ st)(hp:pendingOf st= #[])(h:∀st',zID k κ a₀ st'->D8 k (arrOf st') 0 a₀.length->Q () st'):SW X sortRuns' Q st:=by
 rw[zDb];refine Ak (I7 ?_)
 rw[O.size];refine Ak (Cw (E0 (I:=zOT k κ a₀) (Q:=λc st'=>c=(none,a₀.length)/\X8 k κ a₀ a₀.length st') ⟨rfl,⟨O,by rw[hp];rfl⟩,lq5 _,.inr (lN4 _)⟩ (lq5 _) (λx c st' _ hx J=>Cw (zKO (Q:=λc st'=>c=(none,a₀.length)/\X8 k κ a₀ a₀.length st') H hS hnd J λV=>⟨rfl,V⟩) λr st' q=>by cases r<;>exact q) λc st' J=>?_) λc st' J=>?_)
 ·obtain⟨e,V,hl,g⟩:=J;obtain⟨c1,c2⟩:=c
  cases(show c1=none from e)
  obtain rfl:c2=a₀.length:=g.elim id λg=>lJ7 hl g
  exact⟨rfl,V⟩
 ·obtain⟨rfl,V⟩:=J;exact Ak (zG6 H hS V λst2 V2 hz=>Ar (h st2 V2.O (zHG hz V2.R)))
end
end
noncomputable def Co (p:Int×Int):Int:=p.1*1048576+p.2
structure L9 (F:List D->Mn D)(st:St)(ds:List D)(ks:List (Int×Int)):Prop where
 len:ds.length<=100000
 all:Bs (λd p=>F [d] st=.ok (.tup [.int p.1,.int p.2]) st/\0<=p.2/\p.2<1048576) ds ks
 nd:(ks.map Co).Nodup
noncomputable def Kr (ds:List D)(ks:List (Int×Int)):List D:=((ds.zip ks).mergeSort (λa b=>decide (Co a.2<=Co b.2))).map (·.1)
open Classical in
noncomputable def U6 (F:List D->Mn D)(ds:List D):Mn D:=λst=>if h:∃ks,L9 F st ds ks then Ep (Kr ds (choose h)) st else .bot
noncomputable def zJW (F:List D->Mn D):D->Mn D
 |.ref k=>Ge k (U6 F)
 |_=>botM
noncomputable def E4 (F:List D->Mn D):List D->Mn D:=arg1 (zJW F)
noncomputable def H4 (h:Heap)(v:Value):Int:=match v with
 |.ref a=>match h.get? a with
  |some o=>match o.data with
   |.seq xs _=>match xs.toList with
    |[.int r _,.int c _]=>Co (r,c)
    |_=>0
   |_=>0
  |none=>0
 |_=>0
noncomputable def J0 (h:Heap)(v:Value)(p:Int×Int):Prop:=∃a t u,v=.ref a/\Mt h a #[.int p.1 t,.int p.2 u]
theorem J0.rank(k:J0 h v p):H4 h v=Co p:=by
 obtain⟨a,t,u,rfl,n,e⟩:=k;unfold H4;simp only[e]
theorem zDw(hp:0<=p.2)(hp2:p.2<1048576)(hq:0<=q.2)(hq2:q.2<1048576):(p.1<q.1∨(p.1=q.1/\p.2<q.2))↔Co p<Co q:=by
 unfold Co;constructor
 ·intro h;rcases h with h|⟨h1,h2⟩
  ·lia
  ·lia
 ·intro h;rcases Int.lt_trichotomy p.1 q.1 with z|z|z
  ·exact .inl z
  ·exact .inr ⟨z,by lia⟩
  ·exfalso;lia
section
variable {prog:Program}{w:World}{A:Around}{E:Value->Shared->Prop}{s:Shared}
theorem zLJ(hx:J0 s.heap x p)(hy:J0 s.heap y q)(h:Q (decide (p.1<q.1∨(p.1=q.1/\p.2<q.2))) s):wpAny (model prog w) A (keyLt' (tuples' true) x y) Q E s:=by
 apply yo;intro _ k0
 obtain⟨a,t,u,rfl,n,ea⟩:=hx;obtain⟨b,t',u',rfl,n',eb⟩:=hy;apply k0
 refine PySem.W.kat_lt ea rfl eb rfl ?_
 refine PySem.W.kat_cons (wpAny_eqBool_int ?_)
 by_cases h1:p.1=q.1
 ·rw[lN8.mpr h1];refine PySem.W.kat_yes (PySem.W.kat_cons (wpAny_eqBool_int ?_))
  by_cases h2:p.2=q.2
  ·rw[lN8.mpr h2];refine PySem.W.kat_yes (PySem.W.kat_nil ?_)
   rw[show decide (p.1<q.1∨p.1=q.1/\p.2<q.2)=false from decide_eq_false λz=>z.elim (λy=>Int.ne_of_lt y h1) λy=>Int.ne_of_lt y.2 h2]at h
   exact h
  ·rw[beq_false_of_ne h2];refine PySem.W.kat_no (PySem.W.kat_one _ _ (wpAny_lt_int ?_))
   rw[show decide (p.1<q.1∨p.1=q.1/\p.2<q.2)=decide (p.2<q.2)from lI7.mpr ⟨λz=>z.elim (λy=>absurd h1 (Int.ne_of_lt y)) (·.2),λy=>.inr ⟨h1,y⟩⟩]at h
   exact h
 ·rw[beq_false_of_ne h1];refine PySem.W.kat_no (oneLt_int ?_)
  rw[show decide (p.1<q.1∨p.1=q.1/\p.2<q.2)=decide (p.1<q.1)from lI7.mpr ⟨λz=>z.elim id λy=>absurd y.1 h1,.inl⟩]at h
  exact h
noncomputable def zMP (h:Heap)(x:Keyed):Prop:=∃p,J0 h x.1 p/\0<=p.2/\p.2<1048576
theorem zII:Qj ⟨prog,w,A,E,s⟩ (λx=>H4 s.heap x.1) (tuples' true) (zMP s.heap):=by
 intro x y h2z h3z st Q hk h;apply yo;intro _ k0
 obtain⟨p,hp,p0,p1⟩:=h2z;obtain⟨q,hq,q0,q1⟩:=h3z;apply k0
 show wpS _ _ _ _ _ _ _
 simp only[lt'_eq];refine wpS_bind (wpS_get ?_)
 rw[hk];refine wpS_bind (wpS_lift (wpAny_attempt (zLJ hp hq ⟨rfl,?_⟩)))
 refine wpS_pure ?_
 rw[show decide (p.1<q.1∨p.1=q.1/\p.2<q.2)=decide (H4 s.heap x.1<H4 s.heap y.1)from lI7.mpr (by rw[hp.rank,hq.rank];exact zDw p0 p1 q0 q1)]
 exact h
end
theorem Bs.perm{α β:Type}{R:α->β->Prop}{l l':List α}(p:l'.Perm l):∀{m:List β},Bs R l m->∃m',m'.Perm m/\Bs R l' m':=by
 induction p with
 |nil=>intro m h;exact⟨m,.refl _,h⟩
 |cons x p ih=>
  intro m h
  cases h with
  |cons r rs=>
   obtain⟨m',p',h'⟩:=ih rs;exact⟨_,p'.cons _,.cons r h'⟩
 |swap x y l=>
  intro m h
  cases h with
  |cons r rs=>
   cases rs with
   |cons r' rs'=>exact⟨_,.swap _ _ _,.cons r' (.cons r rs')⟩
 |trans p q ih1 ih2=>
  intro m h;apply yo;intro _ k0
  obtain⟨m1,p1,h1⟩:=ih2 h;obtain⟨m2,p2,h2⟩:=ih1 h1;apply k0
  exact⟨m2,p2.trans p1,h2⟩
theorem Bs.map2(hs:∀a b,R a b->S (f a) (g b))(h:Bs R l m):Bs S (l.map f) (m.map g):=by
 induction h with
 |nil=>exact .nil
 |cons r _ ih=>exact .cons (hs _ _ r) ih
theorem Bs.flip(h:Bs R l m):Bs (λb a=>R a b) m l:=by
 induction h with
 |nil=>exact .nil
 |cons r _ ih=>exact .cons r ih
theorem Fj{α:Type}{f:α->Int}:∀{l m:List α},l.Perm m->l.Pairwise (λa b=>f a<=f b)->m.Pairwise (λa b=>f a<=f b)->(m.map f).Nodup->l=m
 |[],m,p,_,_,_=>p.nil_eq
 |x::l,[],p,_,_,_=>by have:=p.length_eq;simp at this
 |x::l,y::m,p,h1,h2,nd=>by
  have hxm:x∈y::m:=p.mem_iff.mp lq1
  have hyl:y∈x::l:=p.mem_iff.mpr lq1
  have hxy:x=y:=by
   rcases lL5.mp hxm with e|mx
   ·exact e
   ·rcases lL5.mp hyl with e|my
    ·exact e.symm
    ·have a1:=(lF2.mp h1).1 y my;have a2:=(lF2.mp h2).1 x mx;have e:f x=f y:=by exact Kl (λZ=>Az [_,_] [Ae x0 x1,Ac x1 x0] rT Z a2) (λZ=>Az [_,_] [Ae x1 x0,Ac x0 x1] rT Z a1)
     rw[lL4,List.nodup_cons]at nd;exact absurd (lM4.mpr ⟨x,mx,e⟩) nd.1
  subst hxy;rw[Fj (List.Perm.cons_inv p) (lF2.mp h1).2 (lF2.mp h2).2 (by rw[lL4,List.nodup_cons]at nd;exact nd.2)]
theorem Ln(ds:List D)(ks:List (Int×Int)):((ds.zip ks).mergeSort (λa b=>decide (Co a.2<=Co b.2))).Pairwise (λa b=>Co a.2<=Co b.2):=by
 have:=List.pairwise_mergeSort (le:=λ(a b:D×(Int×Int))=>decide (Co a.2<=Co b.2)) (λa b c h1 h2=>by simp at h1 h2 ⊢; exact lM2 h1 h2) (λa b=>by simp;lia) (ds.zip ks)
 exact this.imp λh=>by simpa using h
noncomputable def zHz (p:Int×Int):D:=.tup [.int p.1,.int p.2]
section
variable {G:Gd}{A:Around}{s:Shared}{ρ:List Addr}{σ:C3}{st:St}
theorem zGp(r:Cr G h ρ (zHz p) v):J0 h v p:=by
 dsimp only[zHz,Cr,Ay]at r
 apply yo;intro _ k0
 obtain⟨a,vs,rfl,_,t,v1,r1,e1,⟨t1,rfl⟩,v2,r2,e2,⟨t2,rfl⟩,rfl⟩:=r;apply k0
 subst e2;have:vs= #[.int p.1 t1,.int p.2 t2]:=by
  have:=lO2 List.toArray e1
  simpa using this
 subst this;exact⟨a,t1,t2,rfl,t⟩
theorem zE3(pre:∀(k:Nat) (a:Addr),ρ[k]? =some a->ρ'[k]? =some a)(hl:ρ'.length=ρ.length):ρ'=ρ:=by
 refine List.ext_getElem? λi=>?_
 cases e:ρ[i]? with
 |some a=>exact pre i a e
 |none=>
  rw[List.getElem?_eq_none_iff]at e ⊢;exact lM7 (lM5 hl) e
noncomputable def zBn (G:Gd)(n:Nat)(a:Addr)(F:List D->Mn D)(s:Shared)(ρ:List Addr)(st:St):Prop:=
 ∀A ds vs d st' (Q:Value->Shared->Prop) (E:Value->Shared->Prop),Pl n A->Dg G s ρ st.sto->Ay G s.heap ρ ds vs->F ds st=.ok d st'->
  (∀v s' ρ',st'.loc=st.loc->Dg G s' ρ' st'.sto->Ev [] s.heap ρ s'.heap ρ'->Cr G s'.heap ρ' d v->Q v s')->wpAny G.M A (call (.ref a) vs) Q E s
structure zMC (G:Gd)(ρ:List Addr)(σ:C3)(hs:Heap)(b kS:Addr)(e1:Nat)(kvs:List Value)(ks:List (Int×Int))(s:Shared):Prop where
 inv:Dg G s ρ σ
 ev:Ev [] hs ρ s.heap ρ
 hb:hs.objs.size<=b
 hk:hs.objs.size<=kS
 ne:b≠kS
 atb:s.heap.get? b=some (E5 #[] e1)
 atk:∃e,s.heap.get? kS=some (E5 kvs.toArray e)
 rel:Ay G s.heap ρ (ks.map zHz) kvs
theorem F9{hs:Heap}(I0:Dg G s ρ σ)(h:s.heap.objs.size<=q):G.h0.get? q=none/\q∉ρ:=⟨I0.h0_le h,λm=>lL7 _ (lF5 (I0.mem_lt m) h)⟩
theorem P9(e:h.get? q=some (E5 vs n)):It [q] h (h.update q (Obj.mapSeq g)):=
 Ks (λb o hne ho=>(lB7 _ _ (Ne.symm hne)).trans ho) (by rw[Heap.size_after_update];exact lN4 _) λ⟨x,y,z⟩=>by rw[e]at z;exact Go (lK2 z).symm
theorem Je{h:Heap}{q:Addr}{vs:Array Value}{n:Nat}(g:Array Value->Array Value)(e:h.get? q=some (E5 vs n)):∃n',(h.update q (Obj.mapSeq g)).get? q=some (E5 (g vs) n'):=⟨_,get?_update_seq e g⟩
theorem R2{F:List D->Mn D}{f:Addr}{n:Nat}{hs:Heap}(hF:∀s,Ev [] hs ρ s.heap ρ->zBn G n f F s ρ st)(R:Pl n A){s₀:Shared}(I₀:Dg G s₀ ρ st.sto)(hs0:s₀.heap=hs){b kS:Addr}{e1:Nat}{E:Value->Shared->Prop}
  {body:Value->PUnit->Sem (ForInStep PUnit)}
  (hbody:∀x (s:Shared) (Q:ForInStep PUnit->Shared->Prop),wpAny G.M A (call (.ref f) [x]) (λk s'=>wpAny G.M A (Builtin.List.listUpdate (.ref kS) (·.push k)) (λ_ s''=>Q (.yield ⟨⟩) s'') (λ_ _=>False) s') (λ_ _=>False) s->wpAny G.M A (body x ⟨⟩) Q E s):
  ∀(vs:List Value) (ds:List D) (ks:List (Int×Int)) (kvs:List Value) (pre:List (Int×Int)) (s:Shared) (Q:PUnit->Shared->Prop),zMC G ρ st.sto hs b kS e1 kvs pre s->Ay G s.heap ρ ds vs->
   Bs (λd p=>F [d] st=.ok (.tup [.int p.1,.int p.2]) st/\0<=p.2/\p.2<1048576) ds ks->kvs.length+vs.length<=100000->
   (∀s' kvs',zMC G ρ st.sto hs b kS e1 kvs' (pre++ks) s'->kvs'.length=kvs.length+vs.length->Ev [] s.heap ρ s'.heap ρ∨True->Q ⟨⟩ s')->wpAny G.M A (forIn vs PUnit.unit body) Q E s
 |[],ds,ks,kvs,pre,s,Q,J,r,a,hl,h=>by
  simp only[List.forIn_nil]
  cases ds with
  |nil=>
   cases a;refine lO1 (h s kvs (by rw[lJ0];exact J) (by simp) (.inr trivial))
  |cons d ds=>obtain⟨v,r',e,_⟩:=r;cases e
 |x::vs,ds,ks,kvs,pre,s,Q,J,r,a,hl,h=>by
  rw[lJ3]
  cases ds with
  |nil=>cases r
  |cons d ds=>
   obtain⟨v,r',e,rx,rr⟩:=r
   cases e
   cases a with
   | @cons _ p _ ks' a1 a2=>
    obtain⟨aF,a0,am⟩:=a1;refine lN9 (hbody x s _ ?_)
    refine hF s J.ev A [d] [x] _ _ _ _ R J.inv (by exact⟨x,[],rfl,rx,rfl⟩) aF λk s' ρ' _ I' x' rk=>?_
    ·have hρ:ρ=ρ':=(zE3 x'.pre (by rw[I'.len,J.inv.len])).symm
     subst hρ;have nb:=F9 (hs:=hs) I₀ (q:=b) (by rw[hs0];exact J.hb)
     have nk:=F9 (hs:=hs) I₀ (q:=kS) (by rw[hs0];exact J.hk)
     obtain⟨ek,hek⟩:=J.atk;have keep:∀{q:Addr}{o:Obj},q∉ρ->s.heap.get? q=some o->(∀es n,o.data≠.dict es n)->s'.heap.get? q=some o:=λhq ho hd=>by
      obtain⟨o',ho',so⟩:=x'.keep _ _ ho hq (λm=>nomatch m)
      rw[so.eq hd]at ho';exact ho'
     have hb':=keep nb.2 J.atb (λ_ _ z=>by cases z)
     have hk':=keep nk.2 hek (λ_ _ z=>by cases z)
     have hsz:(100001:Nat)<=sizeLine:=by decide
     simp only[lI0]at hl;refine listUpdate_at hk' rfl ?_ (by rw[lG7];exact Ck (Ac x0 x1) [Ac (.a x0 (.a x2 (.n 1))) (.n 100000),Ac (.n 100001) x1,Ac (.n 0) x2] rT hl hsz (lq5 _)) (by rw[Array.size_push,lG7];exact Ck (Ac (.a x0 (.n 1)) (.a x1 (.n 1))) [Ac (.a x0 (.a x2 (.n 1))) (.n 100000),Ac (.n 100001) x1,Ac (.n 0) x2] rT hl hsz (lq5 _))
     have hO:=P9 (g:=(·.push k)) hk';have hOwn:∀q,q∈[kS]->X3 G s'.heap ρ st.sto q:=λq m=>by
      simp only[lq0 m];exact .inl (.inr ⟨nk.1,nk.2,_,_,hk'⟩)
     have I2:=I'.only hO hOwn s'.toks;have S2:=hO.stb hOwn;have S1:=x'.stb J.inv .nil;obtain⟨n',hk2⟩:=Je (·.push k) hk'
     have hb2:(s'.heap.update kS (Obj.mapSeq (·.push k))).get? b=some (E5 #[] e1):=(lB7 _ _ (Ne.symm J.ne)).trans hb'
     refine R2 hF R I₀ hs0 hbody vs ds ks' (kvs++[k]) (pre++[p]) _ Q ⟨I2,?_,J.hb,J.hk,J.ne,hb2,⟨n',?_⟩,?_⟩ (Ay.mono S2 _ _ (Ay.mono S1 _ _ rr)) a2 (by rw[lq7];exact Cp (Ac (.a (.a x0 (.a (.n 0) (.n 1))) x1) (.n 100000)) [Ac (.a x0 (.a x1 (.n 1))) (.n 100000)] rT hl) (λs'' kvs' J' hl' _=>h s'' kvs' (by simpa using J') (by simp at hl' ⊢; exact Du (λZ=>An [_,_,_] [Ae x2 (.a x0 (.a x1 (.n 1))),Cz x2 (.a (.a x0 (.n 1)) x1)] rT Z hl') (λZ=>An [_,_,_] [Ae (.a x0 (.a x1 (.n 1))) x2,eq1 x2 (.a (.a x0 (.n 1)) x1)] rT Z hl')) (.inr trivial))
     ·exact(J.ev.trans x').only hO λq m=>.inl (by rw[lq0 m];exact J.hk)
     ·rw[hk2];simp
     ·rw[lJ5];refine Ay.of_all2 ((Ay.all2 (Ay.mono S2 _ _ (Ay.mono S1 _ _ J.rel))).append ?_)
      exact .cons (Cr.mono S2 _ _ rk) .nil
end
section
variable {G:Gd}{A:Around}{s:Shared}{ρ:List Addr}{σ:C3}{st:St}{hs:Heap}{b kS:Addr}{e1:Nat}{kvs:List Value}{ks:List (Int×Int)}{E:Value->Shared->Prop}
theorem Lh.trans(x:Lh h ρ h' ρ')(y:Lh h' ρ' h'' ρ''):Lh h ρ h'' ρ'':=
 ⟨λk a e=>y.pre k a (x.pre k a e),λa i n t=>let⟨n',t'⟩:=x.tup a i n t;y.tup a i n' t'⟩
theorem Rb(I₀:Dg G s₀ ρ σ)(hs0:s₀.heap=hs)(J:zMC G ρ σ hs b kS e1 kvs ks s)(hl:kvs.length<=100000){sst:SortSt}(hf:failedOf sst=none)(hz:(arrOf sst).size<=100000)(h:∀s',Dg G s' ρ σ->Ev [] hs ρ s'.heap ρ->(∃n',s'.heap.get? b=some (E5 ((arrOf sst).map (·.2)) n'))->Lh s.heap ρ s'.heap ρ->Q (.done (.ret .none)) s'):
  wpAny G.M A (ksk_tail b false e1 (.ref kS) sst) Q E s:=by
 have nb:=F9 (hs:=hs) I₀ (q:=b) (by rw[hs0];exact J.hb)
 have nk:=F9 (hs:=hs) I₀ (q:=kS) (by rw[hs0];exact J.hk)
 obtain⟨ek,hek⟩:=J.atk;have hsz:(100001:Nat)<=sizeLine:=by decide
 unfold ksk_tail;simp only[lE6,lO3];refine lN9 (listUpdate_at hek rfl ?_ (by rw[lG7];exact zOS hl hsz rfl) (lq5 _))
 have hO:=P9 (g:=λ_=> #[]) hek
 have hOwn:∀q,q∈[kS]->X3 G s.heap ρ σ q:=λq m=>by
  simp only[lq0 m];exact .inl (.inr ⟨nk.1,nk.2,_,_,hek⟩)
 have I2:=J.inv.only hO hOwn s.toks;have hb2:(s.heap.update kS (Obj.mapSeq λ_=> #[])).get? b=some (E5 #[] e1):=(lB7 _ _ (Ne.symm J.ne)).trans J.atb
 refine lN9 (wpAny_letGo ?_)
 refine lN9 (seqEpoch_at hb2 rfl ?_)
 refine lN9 (listUpdate_at hb2 rfl ?_ (lq5 _) (by rw[Array.size_map];exact Cp (Ac x0 (.a x1 (.n 1))) [Ac x0 (.n 100000),Ac (.n 100001) x1] rT hz hsz))
 simp only[hf];simp only[bne_self_eq_false,lE6,lO3];have hO2:=P9 (g:=λ_=>(arrOf sst).map (·.2)) hb2
 have hOwn2:∀q,q∈[b]->X3 G (s.heap.update kS (Obj.mapSeq λ_=> #[])) ρ σ q:=λq m=>by
  simp only[lq0 m];exact .inl (.inr ⟨nb.1,nb.2,_,_,hb2⟩)
 have I3:=Dg.only (s:={s with heap:=s.heap.update kS (Obj.mapSeq λ_=> #[])}) I2 hO2 hOwn2 s.toks
 have hx:=(J.ev.only hO λq m=>.inl (by rw[lq0 m];exact J.hk)).only hO2 λq m=>.inl (by rw[lq0 m];exact J.hb)
 have hS:=(hO.stb hOwn).trans (hO2.stb hOwn2);have hu:=Je (λ_=>(arrOf sst).map (·.2)) hb2
 have fin:=h _ I3 hx hu hS;exact lO1 fin
theorem Hi{α β:Type}{R:α->β->Prop}{l:List α}{m:List β}(h:Bs R l m):∀a,a∈l->∃b,b∈m/\R a b:=by
 induction h with
 |nil=>intro a m;cases m
 |cons r _ ih=>
  intro a m;rcases lL5.mp m with rfl|m
  ·exact⟨_,lq1,r⟩
  ·obtain⟨b,mb,r'⟩:=ih a m;exact⟨b,lq4 _ mb,r'⟩
theorem Nu:∀{kvs:List Value}{ks:List (Int×Int)}{h:Heap},Bs (λv p=>J0 h v p) kvs ks->∃fs,fs.length=kvs.length/\PySem.W.KatTups h kvs fs/\∀v,v∈fs->∃i t,v=Value.int i t
 |_,_,h,.nil=>⟨[],rfl,PySem.W.KatTups.nil,λ_ m=>nomatch m⟩
 |_,_,h,.cons (b:=p) r rs=>by
  apply yo;intro _ k0
  obtain⟨fs,e,t,hi⟩:=Nu rs;obtain⟨a,t1,u1,rfl,n,ea⟩:=r;apply k0
  refine⟨.int p.1 t1::fs,by simp[e],PySem.W.KatTups.cons ea rfl rfl rfl t,λv m=>?_⟩
  rcases lL5.mp m with rfl|m
  ·exact⟨_,_,rfl⟩
  ·exact hi v m
theorem zCd(rk:Bs (λv p=>J0 h v p) kvs ks):kvs.map (H4 h)=ks.map Co:=by
 induction rk with
 |nil=>rfl
 |cons r _ ih=>rw[lL4,lL4,r.rank,ih]
theorem Uu:∀{ks:List (Int×Int)}{kvs:List Value},Ay G h ρ (ks.map zHz) kvs->Bs (λv p=>J0 h v p) kvs ks
 |[],kvs,r=>by simp only[List.map_nil,Ay]at r;subst r;exact .nil
 |p::ks,kvs,r=>by
  obtain⟨v,rr,rfl,r1,r2⟩:=r;exact .cons (zGp r1) (Uu r2)
theorem Zw{h:Heap}{vs:List Value}{ds:List D}{arr:List Keyed}(rk:Bs (λv p=>J0 h v p) kvs ks)(rv:Ay G h ρ ds vs)(nd:(ks.map Co).Nodup)(hp:arr.Perm (kvs.zip vs))(hsrt:arr.Pairwise (λx y=>H4 h x.1<=H4 h y.1)):
  Ay G h ρ (Kr ds ks) (arr.map (·.2)):=by
 have hlen:ds.length=vs.length:=rv.all2.length.symm
 have hz:Bs (λ(x:Keyed) (y:D×(Int×Int))=>J0 h x.1 y.2/\Cr G h ρ y.1 x.2) (kvs.zip vs) (ds.zip ks):=by
  clear hp hsrt nd;have rv':=rv.all2;clear rv
  induction rk generalizing vs ds with
  |nil=>
   cases ds with
   |nil=>exact .nil
   |cons d ds=>exact .nil
  |cons r rs ih=>
   cases rv' with
   |nil=>exact .nil
   |cons r' rs'=>exact .cons ⟨r,r'⟩ (ih (by simpa using hlen) rs')
 obtain⟨q,pq,aq⟩:=hz.perm hp;have hq:q.Pairwise (λa b=>Co a.2<=Co b.2):=by
  clear pq hz hp
  induction aq with
  |nil=>exact .nil
  |cons r rs ih=>
   rw[lF2]at hsrt ⊢;refine⟨λy my=>?_,ih hsrt.2⟩
   obtain⟨x,mx,rx⟩:=Hi rs.flip y my;have:=hsrt.1 x mx
   simp only[r.1.rank,rx.1.rank]at this;exact this
 have hnd:((ds.zip ks).map (λa=>Co a.2)).Nodup:=by
  have e:(ds.zip ks).map (λa=>Co a.2)=((ds.zip ks).map (·.2)).map Co:=by rw[lM3];rfl
  simp only[e];refine List.Nodup.sublist (List.Sublist.map _ ?_) nd
  have:∀(a:List D) (b:List (Int×Int)),((a.zip b).map (·.2)).Sublist b:=by
   intro a
   induction a with
   |nil=>intro b;simp
   |cons x a ih=>
    intro b
    cases b with
    |nil=>simp
    |cons y b=>exact(ih b).cons_cons y
  exact this ds ks
 have eq:q=(ds.zip ks).mergeSort (λa b=>decide (Co a.2<=Co b.2)):=by
  have pm:=List.mergeSort_perm (ds.zip ks) (λa b=>decide (Co a.2<=Co b.2))
  exact Fj (f:=λa=>Co a.2) (pq.trans pm.symm) hq (Ln ds ks) ((pm.map _).nodup_iff.mpr hnd)
 unfold Kr;rw[←eq];exact Ay.of_all2 (aq.map2 (λa b r=>r.2))
theorem zDX{α:Type}{R:α->α->Prop}:∀{l:List α},l.length<2->l.Pairwise R
 |[],_=>.nil
 |[_],_=>List.pairwise_singleton _ _
 |_::_::_,h=>absurd h (by exactλZ=>An [_] [Ae (.a (.a x0 (.n 1)) (.n 1)) (.n 2),Ac (.n 0) x0] rT Z (lq5 _))
theorem zDs{s₀:Shared}(I₀:Dg G s₀ ρ σ)(hs0:s₀.heap=hs)(J:zMC G ρ σ hs b kS e1 kvs ks s){vs:List Value}{ds:List D}(rv:Ay G s.heap ρ ds vs)(hl:kvs.length=vs.length)(hl2:vs.length<=100000)(nd:(ks.map Co).Nodup)(hr:∀p,p∈ks->0<=p.2/\p.2<1048576)
  {Q:PySem.Fin->Shared->Prop}(h:∀s' out n',Dg G s' ρ σ->Ev [] hs ρ s'.heap ρ->s'.heap.get? b=some (E5 out n')->Ay G s'.heap ρ (Kr ds ks) out.toList->Q (.done (.ret .none)) s'):
  wpAny G.M A (ksk_end b false vs.toArray e1 (.ref kS) kvs.toArray) Q E s:=by
 have rk:Bs (λv p=>J0 s.heap v p) kvs ks:=Uu J.rel
 unfold ksk_end;dsimp only;simp only[lE6,lO3];have hzip:(kvs.toArray.zip vs.toArray).toList=kvs.zip vs:=by rw[Array.toList_zip]
 by_cases h2:vs.toArray.size<2
 ·rw[lO6 h2,lO6 h2];refine lN9 (lO1 ?_)
  refine lN9 ?_
  refine lO1 ?_
  dsimp only;refine Rb I₀ hs0 J (lM7 (lM5 hl) hl2) rfl (by rw[←lD9,hzip,List.length_zip];(clear h2 hzip rk h hr nd hl rv J hs0 I₀;lia)) λs' I' x' ⟨n',hb⟩ S=>?_
  refine h s' _ n' I' x' hb (Ay.mono S _ _ ?_)
  have:=Zw (arr:=kvs.zip vs) rk rv nd (.refl _) (by
   have:(kvs.zip vs).length<2:=by rw[List.length_zip];simp at h2;(clear hb S x' I' hzip rk h hr nd hl2 hl rv J hs0 I₀;lia)
   exact zDX this)
  simp only[Array.toList_map];rw[hzip];exact this
 ·rw[lO5 h2,lO5 h2];obtain⟨fs,hfl,ht,hfi⟩:=Nu rk;refine lN9 (PySem.W.kat_kind (T:=.type "int") ht (by simp at h2;exact Ck (Ae (.n 0) x0) [Cz x1 x2,Cz x0 x1,Ac (.n 2) x2] rT hl hfl h2) (λv m=>?_) rfl ?_)
  ·obtain⟨i,t,rfl⟩:=hfi v m;exact PySem.W.Looks.now
  have hkz:(kvs.zip vs).length=vs.length:=by rw[List.length_zip];(clear hfi ht hfl h2 hzip rk h hr nd hl2 rv J hs0 I₀;lia)
  have run:=Uq (X:=⟨G.prog,G.w,A,E,s⟩) (k:=λx=>H4 s.heap x.1) (κ:=tuples' true) (S:=zMP s.heap) zII (a₀:=kvs.zip vs) (λx m=>?_) ?_ (st:=SortSt.mk' (tuples' true) (kvs.toArray.zip vs.toArray) #[] 7 none)
   (Q:=λ_ st'=>zID (λx=>H4 s.heap x.1) (tuples' true) (kvs.zip vs) st'/\D8 (λx=>H4 s.heap x.1) (arrOf st') 0 (kvs.zip vs).length) ⟨by show(kvs.toArray.zip vs.toArray).toList.Perm _;rw[hzip],rfl,rfl⟩ rfl λst' o1 o2=>⟨o1,o2⟩
  ·refine lN9 (lO0 run ?_ λ_ _ x=>x)
   rintro⟨⟨⟩,st'⟩ s' ⟨rfl,O,hsrt⟩
   have hsize:=O.size;refine Rb I₀ hs0 J (lM7 (lM5 hl) hl2) O.failed (by exact Ck (Ac x0 (.n 100000)) [Ac x1 (.n 100000),eq1 x2 x1,eq1 x0 x2] rT hl2 hkz hsize) λs'' I' x' ⟨n',hb⟩ S=>?_
   refine h s'' _ n' I' x' hb (Ay.mono S _ _ ?_)
   simp only[Array.toList_map];refine Zw rk rv nd O.perm ?_
   refine lA7.mpr λi j hi hj hij=>?_
   have hi':i<(arrOf st').size:=by simpa using hi
   have hj':j<(arrOf st').size:=by simpa using hj
   have:=hsrt i j (lq5 _) (lM6 hij) (by rw[←hsize];exact hj')
   rw[Fw (p:=(arrOf st')[i]) (by simp[hi']),Fw (p:=(arrOf st')[j]) (by simp[hj'])]at this
   simpa using this
  ·have mx:x.1∈kvs:=(List.of_mem_zip m).1
   obtain⟨p,mp,kp⟩:=Hi rk _ mx;exact⟨p,kp,hr p mp⟩
  ·have e:(kvs.zip vs).map (λx=>H4 s.heap x.1)=ks.map Co:=by
    have e1:(kvs.zip vs).map (λx=>H4 s.heap x.1)=((kvs.zip vs).map (·.1)).map (H4 s.heap):=by rw[lM3];rfl
    simp only[e1,List.map_fst_zip (lM5 hl)];exact zCd rk
   rw[e];exact nd
end
section
variable {G:Gd}{C:Cx}{F:Fr G C}{A:Around}{P:List Addr}{s:Shared}{ρ:List Addr}{st:St}
theorem Pl.in1(R:Pl (n+1) A):Pl n A.in1.in1:=⟨R.hd,by have:=R.depth;show A.depth+n<=900;exact Cp (Ac (.a x0 x1) (.n 900)) [Ac (.a x0 (.a x1 (.n 1))) (.n 900)] rT this,by have:=R.units;show A.units+1+1+10*n<=9000;exact Cp (Ac (.a (.a (.a x0 (.n 1)) (.n 1)) (.m 10 x1)) (.n 9000)) [Ac (.a x0 (.m 10 (.a x1 (.n 1)))) (.n 9000)] rT this⟩
theorem zBT{fn:List D->Mn D}{f:Addr}{n:Nat}(hF:∀s',Ev [] s.heap ρ s'.heap ρ->zBn G n f fn s' ρ st)(K:Ok F s ρ st)(hlv:n+1<=C.lvl){k:Nat}{a:Addr}{ds:List D}{ks:List (Int×Int)}(hk:ρ[k]? =some a)(hds:st.sto[k]? =some (.list ds))(hK:L9 fn st ds ks)
  {Q:Value->Shared->Prop}{E:Value->Shared->Prop}(h:∀s' b out n',Dg G s' ρ st.sto->Ev [] s.heap ρ s'.heap ρ->s.heap.objs.size<=b->s'.heap.get? b=some (E5 out n')->Ay G s'.heap ρ (Kr ds ks) out.toList->Q (.ref b) s'):
  wpAny G.M F.A (call (.builtin "sorted") [.ref a] [(Str.ofString "key",.ref f)]) Q E s:=by
 apply yo;intro _ k0
 obtain⟨vs,⟨n0,hl⟩,rv⟩:=K.inv.sto k a _ hk hds;apply k0
 have hlen:vs.toList.length=ds.length:=rv.all2.length
 have hsz:(100001:Nat)<=sizeLine:=by decide
 have hK1:=hK.len;have hin:s.heap.IsList a vs.toList.toArray:=by rw[Array.toArray_toList];exact Jq.list ⟨n0,hl⟩
 refine call_function_entry_kw kind_sorted plain_sorted entry_sorted (ksk_s1 _ _) ?_
 unfold Builtin.«sorted»
 refine lN9 (m:=checkCount "sorted" 1 1 _) (lO1 ?_)
 refine lN9 (collect_list hin ?_ (by exact Ck (Ac x0 x1) [eq1 x0 x2,Ac (.n 100001) x1,Ac x2 (.n 100000)] rT hlen hsz hK1))
 refine lN9 (wpAny_newList ?_ (by exact Ck (Ac x0 x1) [eq1 x0 x2,Ac (.n 100001) x1,Ac x2 (.n 100000)] rT hlen hsz hK1))
 have hsz1:((s.heap.push (seqObj "list" #[] 0)).update s.heap.objs.size (Obj.mapSeq (· ++vs.toList.toArray))).objs.size=s.heap.objs.size+1:=by
  simp only[Heap.size_update,size_push']
 have hoL:(((s.heap.push (seqObj "list" #[] 0)).update s.heap.objs.size (Obj.mapSeq (· ++vs.toList.toArray))).push (seqObj "list" vs.toList.toArray 0)).get? (s.heap.objs.size+1)=some (seqObj "list" vs.toList.toArray 0):=by
  rw[←hsz1];exact lE1 _ rfl
 have keep:Ci s.heap (((s.heap.push (seqObj "list" #[] 0)).update s.heap.objs.size (Obj.mapSeq (· ++vs.toList.toArray))).push (seqObj "list" vs.toList.toArray 0)):=λb o q=>by
  have hlt:b<s.heap.objs.size:=lM0 q
  rw[Heap.get?_push_ne _ _ _ (by rw[hsz1];exact lN0 (lH0 hlt)),Heap.get?_update_ne _ _ _ _ (lN0 hlt),Heap.get?_push_ne _ _ _ (lN0 hlt)]
  exact q
 have hsz2:(((s.heap.push (seqObj "list" #[] 0)).update s.heap.objs.size (Obj.mapSeq (· ++vs.toList.toArray))).push (seqObj "list" vs.toList.toArray 0)).objs.size=s.heap.objs.size+2:=by rw[size_push',hsz1]
 show wpAny _ _ _ _ _ {s with heap:=((s.heap.push (seqObj "list" #[] 0)).update s.heap.objs.size (Obj.mapSeq (· ++vs.toList.toArray))).push (seqObj "list" vs.toList.toArray 0)}
 rw[hsz1];generalize(((s.heap.push (seqObj "list" #[] 0)).update s.heap.objs.size (Obj.mapSeq (· ++vs.toList.toArray))).push (seqObj "list" vs.toList.toArray 0))=h2 at hoL keep hsz2
 refine lN9 (lL8 (wpAny_call_entry_kw (s:={s with heap:=h2}) slot_list_sort ⟨_,hoL,rfl⟩ entry_list_sort ?body (ksk_l1 _ _)))
 simp only[ksk_t1];refine lN9 (listItems_at hoL rfl ?_)
 refine lN9 (listUpdate_at hoL rfl ?_ (by rw[lG7];exact Ck (Ac x0 x1) [eq1 x0 x2,Ac (.n 100001) x1,Ac x2 (.n 100000)] rT hlen hsz hK1) (lq5 _))
 obtain⟨e1,ho1⟩:∃e1,(h2.update (s.heap.objs.size+1) (Obj.mapSeq λ_=>(#[]:Array Value))).get? (s.heap.objs.size+1)=some (E5 #[] e1):=⟨_,get?_update_seq hoL λ_=> #[]⟩
 refine lN9 (seqEpoch_at ho1 rfl ?_)
 refine lN9 (wpAny_newTuple ?_ (by exact Ck (Ac x0 x1) [eq1 x0 x2,Ac (.n 100001) x1,Ac x2 (.n 100000)] rT hlen hsz hK1))
 refine lN9 (wpAny_newList ?_ (lq5 _))
 refine lL8 ?_
 have hsz3:((h2.update (s.heap.objs.size+1) (Obj.mapSeq λ_=>(#[]:Array Value))).push (seqObj "tuple" vs.toList.toArray 0)).objs.size=s.heap.objs.size+3:=by rw[size_push',Heap.size_update,hsz2]
 have g3:Ci s.heap (((h2.update (s.heap.objs.size+1) (Obj.mapSeq λ_=>(#[]:Array Value))).push (seqObj "tuple" vs.toList.toArray 0)).push (seqObj "list" #[] 0)):=λb o q=>by
  have hlt:b<s.heap.objs.size:=lM0 q
  refine lB6 _ (lB6 _ ?_)
  rw[Heap.get?_update_ne _ _ _ _ (lN0 (lH0 hlt))];exact keep b o q
 have hb3:(((h2.update (s.heap.objs.size+1) (Obj.mapSeq λ_=>(#[]:Array Value))).push (seqObj "tuple" vs.toList.toArray 0)).push (seqObj "list" #[] 0)).get? (s.heap.objs.size+1)=some (E5 #[] e1):=lB6 _ (lB6 _ ho1)
 have hk3:(((h2.update (s.heap.objs.size+1) (Obj.mapSeq λ_=>(#[]:Array Value))).push (seqObj "tuple" vs.toList.toArray 0)).push (seqObj "list" #[] 0)).get? (s.heap.objs.size+3)=some (E5 #[] 0):=by
  rw[←hsz3];exact lE1 _ rfl
 have hz3:s.heap.objs.size≤(((h2.update (s.heap.objs.size+1) (Obj.mapSeq λ_=>(#[]:Array Value))).push (seqObj "tuple" vs.toList.toArray 0)).push (seqObj "list" #[] 0)).objs.size:=by rw[size_push',hsz3];exact X7 (Ac x0 (.a (.a x0 (.n 3)) (.n 1))) [] rT
 show wpAny G.M F.A.in1.in1 (ksk_rest _ _ _ _ _ (.ref ((h2.update (s.heap.objs.size+1) (Obj.mapSeq λ_=>(#[]:Array Value))).push (seqObj "tuple" vs.toList.toArray 0)).objs.size)) _ _ {s with heap:=((h2.update (s.heap.objs.size+1) (Obj.mapSeq λ_=>(#[]:Array Value))).push (seqObj "tuple" vs.toList.toArray 0)).push (seqObj "list" #[] 0)}
 simp only[hsz3];generalize(((h2.update (s.heap.objs.size+1) (Obj.mapSeq λ_=>(#[]:Array Value))).push (seqObj "tuple" vs.toList.toArray 0)).push (seqObj "list" #[] 0))=h3 at g3 hb3 hk3 hz3
 have I3:=K.inv.grow g3 hz3 s.toks;have J:zMC G ρ st.sto s.heap (s.heap.objs.size+1) (s.heap.objs.size+3) e1 [] [] {s with heap:=h3}:=⟨I3,g3.ev hz3,lI4 _ 1,lI4 _ 3,lN0 (Nat.add_lt_add_left (by decide) _),hb3,⟨0,hk3⟩,by exact(show Ay _ _ _ _ _ from rfl)⟩
 refine lN9 (wpAny_rule ?_)
 rw[←Array.forIn_toList];have hR:Pl n F.A.in1.in1:=(K.room.le hlv).in1
 refine lN9 (R2 hF hR K.inv rfl (b:=s.heap.objs.size+1) (kS:=s.heap.objs.size+3) (e1:=e1) ?_ vs.toList.toArray.toList ds ks [] [] {s with heap:=h3} _ J (by rw[List.toList_toArray];exact Ay.mono g3.stb _ _ rv) hK.all (by simp at hlen ⊢; exact lM7 (lM5 hlen) hK1) λs' kvs' J' hl' _=>?_)
 ·intro x s1 Q1 hq;refine lN9 (wpAny_attempt (lO0 hq (λv s2 h2=>?_) λ_ _ z=>z.elim))
  exact lN9 (lO0 h2 (λ_ s3 h3=>lO1 h3) λ_ _ z=>z.elim)
 ·obtain⟨e,hke⟩:=J'.atk;refine lN9 (listItems_at hke rfl ?_)
  have S:Lh s.heap ρ s'.heap ρ:=J'.ev.stb K.inv .nil
  refine zDs K.inv rfl J' (vs:=vs.toList) (Ay.mono S _ _ rv) (by simpa using hl') (lM7 (lM5 hlen) hK1) (by simpa using hK.nd) (λp m=>?_) λs'' out n' I' x' hb' r'=>⟨_,rfl,lO1 ⟨_,rfl,h s'' _ out n' I' x' (lI4 _ 1) hb' (by simpa using r')⟩⟩
  obtain⟨d,_,r⟩:=Hi hK.all.flip p (by simpa using m);exact r.2
theorem Ri{F:List D->Mn D}{ds:List D}{ks:List (Int×Int)}(hK:L9 F st ds ks):U6 F ds st=Ep (Kr ds ks) st:=by
 have hex:∃ks,L9 F st ds ks:=⟨ks,hK⟩
 have hu:Classical.choose hex=ks:=by
  have h2:=Classical.choose_spec hex;generalize Classical.choose hex=ks' at h2
  have a1:=h2.all;have a2:=hK.all;clear h2 hK hex
  induction a1 generalizing ks with
  |nil=>cases a2;rfl
  |cons r _ ih=>
   cases a2 with
   |cons r' rs'=>
    rw[ih rs'];have e:=r.1.symm.trans r'.1;injection e with e1 e2
    injection e1 with e3
    injection e3 with e4 e5
    injection e4 with e6
    injection e5 with e7 e8
    injection e7 with e9
    rw[Prod.ext e6 e9]
 unfold U6;rw[dif_pos hex,hu]
theorem Rn(hF:∀s',Ev [] s.heap ρ s'.heap ρ->zBn G n f fn s' ρ st)(K:Ok F s ρ st)(hlv:n+1<=C.lvl)(r:Cr G s.heap ρ d v):
  At F P s ρ st (RV G) (call (.builtin "sorted") [v] [(Str.ofString "key",.ref f)]) (zJW fn d):=by
 cases d with
 |ref k=>
  obtain⟨a,rfl,hk⟩:=r;intro d st' Q E hm kk;refine Fk hm λls hds hm=>?_
  by_cases hex:∃ks,L9 fn st ls ks
  ·obtain⟨ks,hK⟩:=hex;rw[Ri hK]at hm
   cases hm;refine zBT hF K hlv hk hds hK λs' b out n' I' x' hb' hat r'=>?_
   have nb:=F9 (hs:=s.heap) K.inv (q:=b) hb';obtain⟨I2,S2⟩:=I'.adopt (q:=b) (p:=.list (Kr ls ks)) nb.1 nb.2 (λo ho=>by rw[hat]at ho;cases ho;simp) (λS=>⟨out,⟨n',hat⟩,Ay.mono S _ _ r'⟩) s'.toks
   exact kk _ _ (ρ++[b]) (K.step I2 (Eo x' hb')) (Eo x'.nil hb') ⟨b,rfl,by rw[←K.inv.len];simp⟩
  ·unfold U6 at hm;rw[dif_neg hex]at hm
   cases hm
 |_=>exact At.bot
theorem SF.at'(h:SF G n a fn):zBn G n a fn s ρ st:=λA=>h A s ρ st
theorem zBg(hs:Dj G (Str.ofString "sorted") (.builtin "sorted"))(hsn:C.names.lookup (Str.ofString "sorted")=some .globalImplicit)(hg:Fs G g (.ref f))(hn:C.names.lookup g=some .globalImplicit)(hd:(g==("__debug__":Str))=false)(hF:SF G n f fn)(hlv:n+1≤C.lvl)(he:SA G C [e] ms)(hst:∀env,starEach [e] env=[(false,eval e env)]):
  SE G C (.Call (.Name (Str.ofString "sorted") sp) [e] [⟨some (Str.ofString "key"),.Name g np,kp⟩] pos) (Af ms (E4 fn)):=.mk <| λF s ρ st K d st' Q E hm kk=>Bk hm λds st1 e1 e2=>by
 refine lN9 (Ei K hs hsn (by decide) ?_)
 have hev:backTo pos (starEach [e] F.env)=(false,eval e F.env)::backTo pos (starEach [] F.env):=by rw[hst];rfl
 refine callWith_kw (he.run F s ρ st pos K ds st1 _ _ e1 λvs s1 ρ1 K1 x1 r1=>?_) hev (by rw[hev];rfl)
 refine kws_cons (My K1 hg hn hd (kws_nil ?_))
 cases ds with
 |nil=>exact Bv e2
 |cons dx ds=>
  cases ds with
  |nil=>obtain⟨v,rfl,rv⟩:=Ja r1;exact Rn (P:=[]) (λs' _=>hF.at') K1 hlv rv d st' _ _ e2 λw s2 ρ2 K2 x2 r2=>kk w s2 ρ2 K2 (x1.trans x2) r2
  |cons _ _=>exact Bv e2
end
section
variable {G:Gd}{C:Cx}{F:Fr G C}{A:Around}{P:List Addr}{s:Shared}{ρ:List Addr}{σ:C3}{st:St}
noncomputable def Ip (ds:List D):List D:=ds.zipIdx.map λp=>D.tup [.int p.2,p.1]
theorem Y0{ds:List D}{i:Nat}{d:D}(h:(Ip ds)[i]? =some d):∃a,ds[i]? =some a/\d=.tup [.int i,a]:=by
 simp only[Ip,lG3,lC1]at h;obtain⟨⟨a,j⟩,h,rfl⟩:=h;rw[List.getElem?_zipIdx]at h;obtain⟨a',h1,h2⟩:=lC1.mp h;injection h2 with e1 e2
 subst e1;rw[lN2]at e2;subst e2;exact⟨_,h1,rfl⟩
theorem Y7:(Ip ds).length=ds.length:=by simp[Ip]
inductive zOq (e it:Addr)(k:Nat)(ds:List D)(out:Option Addr)(rem:List D)(h:Heap)(ρ:List Addr):Prop
 |mk (l:Addr) (i:Nat) (old:Value) (e1:ρ[k]? =some l) (h1:h.IsListIter it l i) (h2:match out with|none=>IsEnum h e it (i:Nat) old|some a=>IsEnumOut h e it (i:Nat) old a) (e3:rem=(Ip ds).drop i)
theorem mem2{P:Addr->Prop}{a b:Addr}(h1:P a)(h2:P b)(q:Addr)(m:q∈[a,b]):P q:=by
 simp only[lL5,lI3,or_false]at m;rcases m with rfl|rfl<;>assumption
structure zMj (G:Gd)(e it:Addr)(k:Nat)(ds:List D)(out:Option Addr)(rem:List D)(h:Heap)(ρ:List Addr)(σ:C3):Prop where
 ie:Rq G h ρ e
 ji:Rq G h ρ it
 s1:σ[k]? =some (.list ds)
 ne:e≠it
 ex:zOq e it k ds out rem h ρ
noncomputable def zDK (k:Nat)(ds:List D)(σ:C3):Prop:=σ[k]? =some (.list ds)
theorem zMj.own{e it:Addr}{k:Nat}{ds rem:List D}{out:Option Addr}{h:Heap}{σ:C3}(t:zMj G e it k ds out rem h ρ σ):∀q,q∈[e,it]->X3 G h ρ σ q:=mem2 (.inl (.inl t.ie)) (.inl (.inl t.ji))
theorem zEc{e it:Addr}{k:Nat}{ds:List D}:zFq G e [e,it] Hx (zDK k ds) (zMj G e it k ds none)
  (λv rem h ρ σ=>∃T,v=.ref T/\zMj G e it k ds (some T) rem h ρ σ) where
 own rem h ρ σ t:=t.own
 ownM v rem h ρ σ t:=t.elim λT z=>z.2.own
 keep P rem s ρ σ s' ρ' σ' t I0 I' x N g:=by
  obtain⟨l,i,old,e1,h1,h2,e3⟩:=t.ex;obtain⟨ie',ee⟩:=t.ie.keep x N;obtain⟨ji',ej⟩:=t.ji.keep x N;obtain⟨o1,ho1,r1⟩:=h1;exact⟨ie',ji',g,t.ne,l,i,old,x.pre _ _ e1,⟨o1,ej.trans ho1,r1⟩,ee.trans h2,e3⟩
 next A s ρ σ rem Q E hh I0 t h1 h2:=by
  obtain⟨l,i,old,e1,hi1,he,e3⟩:=t.ex;replace he:IsEnum s.heap e it i old:=he
  obtain⟨xs,hl1,r1⟩:=I0.sto k l _ e1 t.s1;have np:=mem2 (P:=λq=>¬zFs s.heap q) t.ie.notPrv t.ji.notPrv
  cases rem with
  |nil=>
   have hend:xs[i]? =none:=by
    have h3:=Jc e3;rw[Y7,←r1.size]at h3;simp;omega
   refine Eg (wpAny_pyNext_enum_end hh he hi1 hl1.list hend λh' hk zz=>?_)
   exact h1 rfl h' s.toks ⟨λc o n ee=>hk c o (zMZ n) ee,zz,λq m p=>absurd p (np q m)⟩
  |cons d rest=>
   obtain⟨hd,hr⟩:=Gi e3;obtain⟨da,ha,rfl⟩:=Y0 hd;obtain⟨va,hva,ra⟩:=r1.all2.get i da ha;refine wpAny_pyNext_enum_item he hi1 hl1.list (by simpa using hva) t.ne λh' a1 a2 a3 a4 hk=>?_
   have ho:It [e,it] s.heap h':=⟨λc o n ee=>hk c o (zLn n) (zMZ n) ee,by rw[a4];exact lN5 _,λq m p=>absurd p (np q m)⟩
   have S:=ho.stb t.own;refine h2 _ rest rfl (.ref s.heap.objs.size) h' (s.toks+1) ho ?_ ⟨_,rfl,?_⟩
   ·refine⟨_,#[.int i s.toks,va],rfl,I0.size_notin,⟨0,a3⟩,?_⟩
    exact⟨_,_,rfl,⟨_,rfl⟩,_,_,rfl,Cr.mono S _ _ ra,rfl⟩
   ·have it1:Rq G h' ρ it:=by obtain⟨o,ho,hc,hd⟩:=a2;exact⟨t.ji.1,t.ji.2.1,o,_,_,ho,hc,by decide,hd⟩
    exact⟨⟨t.ie.1,t.ie.2.1,_,_,_,a1,rfl,by decide,rfl⟩,it1,t.s1,t.ne,l,i+1,va,e1,a2,a1,hr⟩
 go A s ρ σ tgt v rest Q E ht I0 t h:=by
  obtain⟨T,rfl,t⟩:=t;obtain⟨elts,k',pos,rfl⟩:=ht;obtain⟨l,i,old,e1,hi1,he,e3⟩:=t.ex;replace he:IsEnumOut s.heap e it i old T:=he
  refine wpAny_letOwnedTupleGo_enum he λh' hz' hs'=>h h' ⟨λb o n ee=>hs'.extBut _ _ (zLn n) ee,lM5 hs'.1.symm,λq m p=>?_⟩ ?_
  ·obtain⟨x,y,p⟩:=p;by_cases hq:q=e
   ·subst hq;exact absurd ⟨x,y,p⟩ t.ie.notPrv
   ·exact⟨x,y,hs'.extBut _ _ hq p⟩
  ·obtain⟨_,_,o1,T1,vs1,ho1,hc1,hT1,hd1⟩:=id t.ji;exact⟨⟨t.ie.1,t.ie.2.1,_,_,_,hz',rfl,by decide,rfl⟩,⟨t.ji.1,t.ji.2.1,o1,T1,vs1,hs'.extBut _ _ (Ne.symm t.ne) ho1,hc1,hT1,hd1⟩,t.s1,t.ne,l,i,old,e1,hi1.extBut hs'.extBut (Ne.symm t.ne),hz',e3⟩
theorem Nn(he:IsEnum s.heap e it i old)(h:Q (.ref e) s):wpAny G.M A (pyIter (.ref e)) Q E s:=wpAny_pyIter_enum he h
theorem zBu:Jl G e (zMj G e it k ds none):=λA s ρ σ rem Q E hh t h=>by
 obtain⟨l,i,old,e1,hi1,he,e3⟩:=t.ex;exact Nn he h
noncomputable def zLv:D->Mn Js
 |.ref k=>Ge k λa=>A8 ⟨Ip a,zDK k a⟩
 |_=>botM
noncomputable def Ve:List D->Mn Js:=arg1 zLv
theorem zIA:zCN G "enumerate" Hx Ve:=λC F s ρ st ds vs src st' Q E E' K r hm kk=>by
 rcases ds with _|⟨d,_|⟨d2,l⟩⟩
 ·exact Bv hm
 ·obtain⟨v,rfl,r1⟩:=Ja r
  cases d with
  |ref k=>
   obtain⟨l1,rfl,e1⟩:=r1;refine Fk hm λa q1 hm=>?_
   cases hm;refine Gb K.inv e1 q1 λxs n hl1 _=>call_enumerate_list (H0 hl1) λh' he hi hsz hk=>Nn he ?_
   have zz:s.heap.objs.size<=h'.objs.size:=by rw[hsz];exact lI4 _ _
   have g:Ci s.heap h':=hk
   have hnew:∀j,s.heap.objs.size+j∉ρ:=λj m=>lL7 _ (lF5 (K.inv.mem_lt m) (lI4 _ j))
   have h0:∀j,G.h0.get? (s.heap.objs.size+j)=none:=λj=>K.inv.h0_le (lI4 _ _)
   obtain⟨o1,ho1,hc1,hd1⟩:=id hi;exact kk {s with heap:=h'} ρ (s.heap.objs.size+1) [s.heap.objs.size+1,s.heap.objs.size] _ _ (K.grow g zz s.toks) (g.ev zz) zEc zBu ⟨⟨h0 1,hnew 1,_,_,_,he,rfl,by decide,rfl⟩,⟨h0 0,hnew 0,o1,_,_,ho1,hc1,by decide,hd1⟩,q1,Nat.ne_of_gt (lI5 _),l1,0,.none,e1,hi,he,rfl⟩ (mem2 (lI4 _ _) (lN4 _))
  |_=>exact Bv hm
 ·exact Bv hm
end
mutual
noncomputable def Vy:D->Option PyData
 |.none=>some .none
 |.bool b=>some (.bool b)
 |.int i=>some (.int i)
 |.str x=>some (.str x)
 |.tup ds=>(F8 ds).map .tuple
 |.ref _=>none
 |.scr _=>none
noncomputable def F8:List D->Option (List PyData)
 |[]=>some []
 |d::ds=>(Vy d).bind λx=>(F8 ds).map (x:: ·)
end
mutual
theorem Pb:∀(d:D) (v:Value) (p:PyData),Vy d=some p->Cr G h ρ d v->∃as,Reads h v p as
 |.none,v,p,e,r=>by cases lK2 e;cases(show v=_ from r);exact⟨_,.none⟩
 |.bool b,v,p,e,r=>by cases lK2 e;cases(show v=_ from r);exact⟨_,.bool b⟩
 |.int i,v,p,e,r=>by cases lK2 e;obtain⟨t,rfl⟩:=r;exact⟨_,.int i t⟩
 |.str x,v,p,e,r=>by cases lK2 e;obtain⟨t,rfl⟩:=r;exact⟨_,.str x t⟩
 |.tup ds,v,p,e,r=>by
  obtain⟨ps,e1,rfl⟩:=lC1.mp (show(F8 ds).map .tuple=some p from e)
  obtain⟨a,vs,rfl,_,⟨n,ho⟩,r2⟩:=r;obtain⟨as,ra⟩:=H5 ds _ ps e1 r2;exact⟨_,.tuple ho rfl rfl ra⟩
 |.ref _,_,_,e,_=>by cases(show none=some _ from e)
 |.scr _,_,_,e,_=>by cases(show none=some _ from e)
theorem H5:∀(ds:List D) (vs:List Value) (ps:List PyData),F8 ds=some ps->Ay G h ρ ds vs->∃as,ReadsAll h vs ps as
 |[],vs,ps,e,r=>by cases lK2 e;cases(show vs=_ from r);exact⟨_,.nil⟩
 |d::ds,vs,ps,e,r=>by
  obtain⟨x,e1,e⟩:=lB3.mp (show(Vy d).bind (λx=>(F8 ds).map (x:: ·))=some ps from e)
  obtain⟨xs,e2,rfl⟩:=lC1.mp e;obtain⟨v,r',rfl,r1,r2⟩:=r;obtain⟨as,h1⟩:=Pb d v x e1 r1;obtain⟨bs,h2⟩:=H5 ds r' xs e2 r2;exact⟨_,.cons h1 h2⟩
end
noncomputable def Lf (σ:C3):D->Option PyData
 |.ref k=>(zNY σ[k]?).bind λds=>(F8 ds).map .list
 |d=>Vy d
theorem Yo(I:Dg G s ρ σ)(e:Lf σ d=some p)(r:Cr G s.heap ρ d v):∃as,Reads s.heap v p as:=by
 cases d with
 |ref k=>
  obtain⟨a,rfl,hk⟩:=r;obtain⟨ds,hs,e⟩:=lB3.mp (show(zNY σ[k]?).bind (λds=>(F8 ds).map .list)=some p from e)
  obtain⟨ps,e1,rfl⟩:=lC1.mp e;obtain⟨vs,⟨n,ho⟩,rr⟩:=I.sto k a _ hk (zED hs);obtain⟨as,ra⟩:=H5 ds _ ps e1 rr;exact⟨_,.list ho rfl rfl ra⟩
 |_=>exact Pb _ _ _ e r
theorem Z9(h:σ[k]? =some (.list ds)):Lf σ (.ref k)=(F8 ds).map .list:=by
 show(zNY σ[k]?).bind _=_
 rw[h];rfl
noncomputable def N1 (σ:C3):List D->Option (List PyData)
 |[]=>some []
 |d::ds=>(Lf σ d).bind λx=>(N1 σ ds).map (x:: ·)
theorem Ie(I:Dg G s ρ σ):∀(ds:List D) (vs:List Value) (ps:List PyData),N1 σ ds=some ps->Ay G s.heap ρ ds vs->∃as,ReadsAll s.heap vs ps as
 |[],vs,ps,e,r=>by cases lK2 e;cases(show vs=_ from r);exact⟨_,.nil⟩
 |d::ds,vs,ps,e,r=>by
  obtain⟨x,e1,e⟩:=lB3.mp (show(Lf σ d).bind (λx=>(N1 σ ds).map (x:: ·))=some ps from e)
  obtain⟨xs,e2,rfl⟩:=lC1.mp e;obtain⟨v,r',rfl,r1,r2⟩:=r;obtain⟨as,h1⟩:=Yo I e1 r1;obtain⟨bs,h2⟩:=Ie I ds r' xs e2 r2;exact⟨_,.cons h1 h2⟩
section
variable {G:Gd}{C:Cx}{F:Fr G C}{A:Around}{P:List Addr}{s:Shared}{ρ:List Addr}{st:St}
noncomputable def zNi (a b:List D):Mn D:=λst=>optB (N1 st.sto a) (λx=>optB (N1 st.sto b) λy=>if PyData.canLay0 (.tuple x)=true/\PyData.canLay0 (.tuple y)=true/\PyData.depth (.tuple x)<=50 then A8 (.bool (!PyData.eqv (.tuple x) (.tuple y)))else botM) st
noncomputable def Ho:D->D->Mn D
 |.tup a,d=>match d with
  |.tup b=>zNi a b
  |_=>botM
 |a,b=>zMF a b
theorem zGy:Ed G .NotEq Ho:=λC F s ρ st d1 d2 v1 v2 K r1 r2=>by
 cases d1 with
 |tup a=>cases d2 with
  |tup b=>
   intro d st' Q E hm kk;refine Ig hm λx ex hm=>Ig hm λy ey hm=>Ft hm λhc hm=>?_
   cases hm;obtain⟨l,vs,rfl,_,⟨n,ho⟩,rr⟩:=r1;obtain⟨l',vs',rfl,_,⟨n',ho'⟩,rr'⟩:=r2;obtain⟨as,ra⟩:=Ie K.inv a _ x ex rr;obtain⟨bs,rb⟩:=Ie K.inv b _ y ey rr';refine SeqAt.compareNe_reads (.tuple ho rfl rfl ra) (.tuple ho' rfl rfl rb) hc.1 hc.2.1 ?_ (kk _ _ ρ K Ev.refl rfl)
   have:=K.room.units
   have hl:cLine=9900:=rfl
   have:=hc.2.2
   lia
  |_=>exact At.bot
 |_=>exact zGJ C F s ρ st _ d2 v1 v2 K r1 r2
noncomputable def TF (G:Gd)(T:String)(f:List D->Mn D):Prop:=
 ∀C (F:Fr G C) s ρ st ds vs,Ok F s ρ st->Ay G s.heap ρ ds vs->At F [] s ρ st (RV G) (call (.type T) vs) (f ds)
theorem zE6(hg:Dj G f (.type T))(hn:C.names.lookup f=some .globalImplicit)(hd:(f==("__debug__":Str))=false)(hF:TF G T fn)(hs:SA G C (e::es) ms)(hst:∀env,starEach (e::es) env=(false,eval e env)::starEach es env)(hpl:∀env,(backTo pos (starEach es env)).any (·.1)=false):
  SE G C (.Call (.Name f np) (e::es) [] pos) (Af ms fn):=.mk <| λF s ρ st K d st' Q E hm kk=>Bk hm λds st1 e1 e2=>by
 show wpAny G.M F.A (eval (.Name f np) F.env >>= λfv=>callWith pos fv [] (backTo pos (starEach (e::es) F.env)) []) _ _ s
 refine lN9 (Ei K hg hn hd ?_)
 have hev:backTo pos (starEach (e::es) F.env)=(false,eval e F.env)::backTo pos (starEach es F.env):=by rw[hst];rfl
 have h1:=hs.run F s ρ st pos K;rw[hev]at h1 ⊢;exact PySem.callWith_type (by show(false||_)=false;rw[lL3];exact hpl F.env) (lD2 (h1 ds st1 _ _ e1 λvs s1 ρ1 K1 x1 r1=>hF C F s1 ρ1 st1 ds vs K1 r1 d st' Q E e2 λv s2 ρ2 K2 x2 r2=>kk v s2 ρ2 K2 (x1.trans x2) r2))
theorem TF.arg1(h:∀C (F:Fr G C) s ρ st d v,Ok F s ρ st->Cr G s.heap ρ d v->At F [] s ρ st (RV G) (call (.type T) [v]) (f d)):TF G T (arg1 f):=λC F s ρ st ds vs K r=>by
 cases ds with
 |nil=>exact At.bot
 |cons d ds=>
  cases ds with
  |nil=>obtain⟨v,rfl,r1⟩:=Ja r;exact h C F s ρ st d v K r1
  |cons _ _=>exact At.bot
noncomputable def zK2:D->Mn D
 |.ref k=>Ge k λds=>if ds.length<=sizeLine then Ep ds else botM
 |_=>botM
noncomputable def Mm:List D->Mn D:=arg1 zK2
theorem At.adopt(K:Ok F s ρ st)(r:Ay G s.heap ρ ds vs.toList)(h:∀Q E,(∀h' n,Ci s.heap h'->h'.get? s.heap.objs.size=some (E5 vs n)->Q (.ref s.heap.objs.size) {s with heap:=h'})->wpAny G.M F.A t Q E s):At F P s ρ st (RV G) t (Ep ds):=λd st' Q E hm kk=>by
 cases hm;refine h Q E λh' n g hb=>?_
 have z:s.heap.objs.size<=h'.objs.size:=lM6 (lM0 hb)
 obtain⟨I2,S2⟩:=(K.inv.grow g z s.toks).adopt (q:=s.heap.objs.size) (p:=.list ds) K.inv.h0_size K.inv.size_notin (λo ho=>by
  have ho':h'.get? s.heap.objs.size=some o:=ho
  rw[hb]at ho';cases ho';simp) (λS=>⟨vs,⟨n,hb⟩,Ay.mono S _ _ (Ay.mono g.stb _ _ r)⟩) s.toks
 exact kk _ _ (ρ++[s.heap.objs.size]) (K.step I2 (Eo (g.ev z) (lN4 _))) (Eo (g.ev z) (lN4 _)) ⟨_,rfl,by rw[←K.inv.len];simp⟩
theorem zI7:TF G "list" Mm:=TF.arg1 λC F s ρ st d v K r=>by
 cases d with
 |ref k=>
  obtain⟨a,rfl,hk⟩:=r;exact At.lst K hk λds vs n _ ho rr=>At.ite λhl=>At.adopt K rr λQ E kk=>call_list_seq a (.inl rfl) ho rfl rfl (λh' c' hkeep hD=>kk h' _ hkeep hD) (by rw[rr.size];exact hl)
 |_=>exact At.bot
noncomputable def zJw:D->Mn D
 |.int a=>if a.natAbs.log2<1920 then A8 (.str (Str.ofString (toString a)))else botM
 |_=>botM
noncomputable def Q8:List D->Mn D:=arg1 zJw
theorem zKa:TF G "str" Q8:=TF.arg1 λC F s ρ st d v K r=>by
 cases d with
 |int a=>obtain⟨t,rfl⟩:=r;exact At.ite λh=>At.tok K λQ E kk=>PySem.P.str_of_int h (kk _ _ ⟨_,rfl⟩)
 |_=>exact At.bot
end
noncomputable def zKV {α:Type}(k:Nat)(ds:List D)(d:α):Mn α:=λst=>.ok d ⟨st.loc,st.sto.set k (.list ds)⟩
noncomputable def Bt (k:Nat)(x:D):Mn D:=Ge k λds=>if ds.length<=sizeLine then zKV k (ds++[x]) .none else botM
noncomputable def Yk (k:Nat):Mn D:=Ge k λds=>if ds.length<=sizeLine then optB ds.getLast? λd=>zKV k ds.dropLast d else botM
noncomputable def Dh (f:Nat->Mn D):D->Mn D
 |.ref k=>Ge k λ_=>f k
 |_=>botM
noncomputable def Ct:D->Mn Fl
 |.none=>A8 .next
 |.str _=>A8 .next
 |_=>botM
section
variable {G:Gd}{C:Cx}{F:Fr G C}{A:Around}{P:List Addr}{s:Shared}{ρ:List Addr}{st:St}
theorem Pm{k:Nat}{a:Addr}{vs:Array Value}{n:Nat}{ds:List D}{g:Array Value->Array Value}(K:Ok F s ρ st)(hk:ρ[k]? =some a)(ho:s.heap.get? a=some (E5 vs n))
  (r:∀(S:Lh s.heap ρ (s.heap.update a (Obj.mapSeq g)) ρ),Ay G (s.heap.update a (Obj.mapSeq g)) ρ ds (g vs).toList){Z:Prop}
  (w:Ok F {s with heap:=s.heap.update a (Obj.mapSeq g)} ρ ⟨st.loc,st.sto.set k (.list ds)⟩->Ev [] s.heap ρ (s.heap.update a (Obj.mapSeq g)) ρ->Lh s.heap ρ (s.heap.update a (Obj.mapSeq g)) ρ->Z):Z:=by
 obtain⟨n',hu⟩:=Je g ho;obtain⟨I,x⟩:=K.inv.put (k:=k) (a:=a) (p:=.list ds) hk (Heap.SameBut.update s.heap a (Obj.mapSeq g)) (λS=>⟨g vs,⟨n',hu⟩,r S⟩) s.toks
 exact w (K.step I (x [])) (x []) ((x []).stb K.inv .nil)
inductive zNm (F:Fr G C)(st:St)(k:Nat)(a:Addr)(dx:D)(Z:Shared->List Addr->Prop)(v:Value)(s:Shared):Prop
 |mk (ρ:List Addr) (K:Ok F s ρ st) (hk:ρ[k]? =some a) (r:Cr G s.heap ρ dx v) (z:Z s ρ)
structure zN8 (G:Gd)(name:Str)(id:String)(f:Nat->D->Mn D):Prop where
 slot:Slot "list" name id
 ty:typeOf (.builtin id)=pure (.type "method_descriptor")
 run:∀C (F:Fr G C) (x:Sem Value) pos a k dx d st st' (Q E:Value->Shared->Prop) s0,wpAny G.M F.A x (zNm F st k a dx λs1 ρ1=>∀w s2 ρ2,Ok F s2 ρ2 st'->Ev [] s1.heap ρ1 s2.heap ρ2->Cr G s2.heap ρ2 d w->Q w s2) E s0->f k dx st=.ok d st'->
  wpAny G.M F.A (callWith pos (.builtin id) [.ref a] [(false,x)] []) Q E s0
theorem zKt{name:Str}{id:String}{f:Nat->D->Mn D}{o e:Expr}{mo me:Mn D}{apos pos:Pos}(L:zN8 G name id f)(ho:SE G C o mo)(he:SE G C e me)
  (hbase:∀env,attributeBase o name env (eval o env)=eval o env) (hst:∀env,starEach [e] env=[(false,eval e env)])
  (hfew:∀env,methodCallForm ([e].length+([]:List Keyword).length) (backTo pos (starEach [e] env)) (backToKw pos (keywordEach [] env))=true) (hline:(apos.endLine==pos.line)=true):
  SE G C (.Call (.Attribute o name apos) [e] [] pos) (Af mo (Dh λk=>Af me (f k))):=.mk <| λF s ρ st K d st' Q E hm kk=>Bk hm λdx st1 e1 e2=>by
 refine wpAny_Call_method_lateS (hbase F.env) (hfew F.env) hline (ho.run F s ρ st K dx st1 _ _ e1 λov s1 ρ1 K1 x1 r1=>?_)
 have hev:backTo pos (starEach [e] F.env)=[(false,eval e F.env)]:=by rw[hst];rfl
 cases dx with
 |ref k=>
  obtain⟨a,rfl,hk⟩:=r1;refine Fk e2 λds0 hp e2=>Gb K1.inv hk hp λvs n hl _=>Bk e2 λdy st2 e3 e4=>?_
  refine⟨"list",id,PySem.F.plainAttrs_list,L.slot,L.ty,⟨_,hl,rfl⟩,(λa' ea=>by cases ea;exact⟨_,hl,rfl⟩),?_⟩
  rw[hev];exact L.run C F _ pos a k dy d st2 st' Q E s1 (he.run F s1 ρ1 st1 K1 dy st2 _ _ e3 λv s2 ρ2 K2 x2 r2=>⟨ρ2,K2,x2.pre k a hk,r2,λw s3 ρ3 K3 x3 r3=>kk w s3 ρ3 K3 ((x1.trans x2).trans x3) r3⟩) e4
 |_=>exact Bv e2
theorem zAw:zN8 G (Str.ofString "append") "list.append" Bt where
 slot:=PySem.F.slot_list_append
 ty:=PySem.F.type_list_append
 run C F x pos a k dx d st st' Q E s0 h hm:=Fk hm λds hds hm=>Ft hm λhlen hm=>by
  cases hm;refine PySem.P.append_list (lO0 h (λv s1 ⟨ρ1,K1,hk,rx,z⟩=>?_) λ_ _ e=>e)
  refine Gb K1.inv hk hds λws m how rw'=>⟨ws,m,by rw[rw'.size];exact hlen,how,?_⟩
  exact Pm (ds:=ds++[dx]) (g:=λxs=>xs.push v) K1 hk how (λS=>by
   have:=Ay.of_all2 ((Ay.all2 (Ay.mono S _ _ rw')).append (.cons (Cr.mono S _ _ rx) .nil))
   simpa using this) λK2 x2 _=>z _ _ ρ1 K2 x2 rfl
theorem Bs.last{α β:Type}{R:α->β->Prop}{l:List α}{l':List β}(h:Bs R l l'){b:β}(e:l'.getLast? =some b):∃a,l[l.length - 1]? =some a/\R a b:=by
 rw[List.getLast?_eq_getElem?,←h.length]at e;exact h.get _ _ e
theorem zJo{o:Expr}{mo:Mn D}{apos pos:Pos}(ho:SE G C o mo)
  (hbase:∀env,attributeBase o (Str.ofString "pop") env (eval o env)=eval o env)
  (hfew:∀env,methodCallForm (([]:List Expr).length+([]:List Keyword).length) (backTo pos (starEach [] env)) (backToKw pos (keywordEach [] env))=true) (hline:(apos.endLine==pos.line)=true):
  SE G C (.Call (.Attribute o (Str.ofString "pop") apos) [] [] pos) (Af mo (Dh Yk)):=.mk <| λF s ρ st K d st' Q E hm kk=>Bk hm λdx st1 e1 e2=>by
 refine wpAny_Call_method_lateS (hbase F.env) (hfew F.env) hline (ho.run F s ρ st K dx st1 _ _ e1 λov s1 ρ1 K1 x1 r1=>?_)
 cases dx with
 |ref k=>
  obtain⟨a,rfl,hk⟩:=r1;refine Fk e2 λ_ _ e2=>Fk e2 λds hds e2=>Ft e2 λhlen e2=>Ig e2 λdl hdl e2=>Gb K1.inv hk hds λvs n hl rr=>?_
  cases e2;obtain⟨v,hv,rv⟩:=rr.all2.last hdl;refine⟨"list","list.pop",PySem.F.plainAttrs_list,PySem.F.slot_list_pop,PySem.F.type_list_pop,⟨_,hl,rfl⟩,(λa' ea=>by cases ea;exact⟨_,hl,rfl⟩),?_⟩
  refine PySem.P.pop_list hl (by simpa using hv) (Pm (ds:=ds.dropLast) (g:=λxs=>xs.eraseIdxIfInBounds (vs.size - 1)) K1 hk hl (λS=>?_) λK2 x2 S=>kk v _ ρ1 K2 (x1.trans x2) (Cr.mono S _ _ rv)) (by rw[rr.size];exact hlen)
  have e:(vs.eraseIdxIfInBounds (vs.size - 1)).toList=vs.toList.take (ds.length - 1):=by
   rw[←rr.size,Array.toList_eraseIdxIfInBounds,List.eraseIdx_eq_take_drop_succ,List.drop_eq_nil_of_le (by simp;omega),lJ0]
  rw[e,List.dropLast_eq_take];exact Ay.of_all2 ((Ay.all2 (Ay.mono S _ _ rr)).take _)
 |_=>exact Bv e2
theorem zH0(h:SE G C e m)(hsw:∀env,swapsWith e none pos.line env=pure false):SS G C (.Expr e pos) (Af m Ct):=.mk <| λF s ρ st K W d st' Q E hm kk=>Bk hm λa st1 e1 e2=>wpAny_Expr (h.run F s ρ st K a st1 _ _ e1 λv s1 ρ1 K1 x1 r1=>by
 cases a with
 |none=>cases e2;cases(show v=.none from r1);exact kk _ s1 ρ1 K1 x1.nil rfl
 |str x=>cases e2;obtain⟨t,rfl⟩:=r1;exact kk _ s1 ρ1 K1 x1.nil rfl
 |_=>exact Bv e2) (by unfold interactive;rw[K.frm.kind];rfl) (hsw F.env)
end
section
open W
noncomputable def zJa (m:Mn D)(d:D):Mn D:=λst=>match m ⟨Be Br 0 d,st.sto⟩with
 |.ok d' st'=>.ok d' ⟨st.loc,st'.sto⟩
 |.bot=>.bot
noncomputable def zF0 (m:Mn D):List D->Mn D:=arg1 (zJa m)
theorem zHE{m:Mn D}{d r:D}{st st':St}{P:D->St->Prop}(h:zJa m d st=.ok r st')(k:∀r st1,m ⟨Be Br 0 d,st.sto⟩=.ok r st1->P r ⟨st.loc,st1.sto⟩):P r st':=by
 unfold zJa at h
 cases e:m ⟨Be Br 0 d,st.sto⟩with
 |ok r st1=>rw[e]at h;cases h;exact k r st1 e
 |bot=>rw[e]at h;cases h
structure zMY (h:Heap)(f:Addr)(fd:FuncData)(x:Str)(e:Expr):Prop where
 obj:∃o,h.get? f=some o/\o.data=.func fd
 body:fd.body=.expr e
 glob:fd.globals=mainGlobals
 clo:fd.closure=[]
 bi:fd.builtins=builtinsNs
 kind:fd.scope.kind=.function
 co:fd.scope.isCoroutine=false
 gen:fd.scope.isGenerator=false
 bind:∀v:Value,bindArgs fd ⟨[v],[]⟩=pure [(x,v)]
 par:fd.scope.names.lookup x=some .local
 nocell:∀y,y∈fd.scope.names->y.2≠.cell
 nofree:∀y,y∈fd.scope.names->y.2≠.free
 code:h.CodeRec fd.code fd.qualname
section
variable {G:Gd}{C:Cx}{F:Fr G C}{A:Around}{P:List Addr}{s:Shared}{ρ:List Addr}{σ:C3}{st:St}
theorem zJc{f:Addr}{fd:FuncData}{x:Str}{e:Expr}{n:Nat}{m:Mn D}(Li:zMY s.heap f fd x e)(hlim:G.h0.NoLimit)(hb:SE G ⟨fd.scope.names,[x],n,.none,""⟩ e m):zBn G (n+1) f (zF0 m) s ρ st:=by
 intro A ds vs r st' Q E R I rr hm;obtain⟨d,rfl⟩:∃d,ds=[d]:=by
  cases ds with
  |nil=>exact Bv hm
  |cons d ds'=>cases ds' with
   |nil=>exact⟨d,rfl⟩
   |cons _ _=>exact Bv hm
 obtain⟨v,rfl,rv⟩:=Ja rr;refine zHE (P:=λr st'=>(∀v s' ρ',st'.loc=st.loc->Dg G s' ρ' st'.sto->Ev [] s.heap ρ s'.heap ρ'->Cr G s'.heap ρ' r v->Q v s')->wpAny G.M A (call (.ref f) [v]) Q E s) hm λr st1 hm kk=>?_
 obtain⟨o,ho,hdata⟩:=Li.obj;have g0:Ci G.h0 s.heap:=I.base
 refine wpAny_call (kla_callFunE (by have:=R.depth;show A.depth<1000;exact Cp (Ae x0 (.n 1000)) [Ac (.a x0 (.a x1 (.n 1))) (.n 900),Ac (.n 0) x1] rT this (lq5 _)) ho hdata Li.co Li.gen Li.body Li.code ?_)
 simp only[Li.bind v];refine lO1 (wpAny_newFunctionEnv Li.nocell (λy m=>by rw[lq0 m];exact Li.par) (λh₁ hns hsb=>⟨(hlim.keeps g0).fresh _ hsb,?_⟩) Li.kind)
 generalize hE:newEnv fd.scope s.heap.objs.size fd.globals fd.closure (fd.qualname++".<locals>.") (some f) fd.code none fd.builtins=env
 have eloc:env.locals=s.heap.objs.size:=by rw[←hE];rfl
 have escope:env.scope=fd.scope:=by rw[←hE];rfl
 have ekind:∀x,env.kindOf x=fd.scope.names.lookup x:=λx=>by unfold Env.kindOf;rw[escope]
 have ecells:env.cells=[]:=by rw[←hE];exact Li.clo
 have g1:Ci s.heap h₁:=λb o e=>(hsb.2 b (lN0 (lM0 e))).trans (lB6 _ e)
 have z1:s.heap.objs.size<=h₁.objs.size:=by rw[hsb.1,lK7];exact lN5 _
 have I₁:Dg G {s with heap:=h₁,toks:=s.toks+[(x,v)].length} ρ st.sto:=I.grow g1 z1 _
 have nof:∀y,env.kindOf y=some .cell∨env.kindOf y=some .free->False:=λy h=>by
  rw[ekind]at h;rcases h with h|h
  ·exact Li.nocell _ (mem_of_lookup h) rfl
  ·exact Li.nofree _ (mem_of_lookup h) rfl
 refine kla_codeExpr (hb.run ⟨A.deeper env,[env.locals],env⟩ _ ρ ⟨Be Br 0 d,st.sto⟩ ⟨⟨R.hd,by have:=R.depth;show A.depth+1+n<=900;exact Cp (Ac (.a (.a x0 (.n 1)) x1) (.n 900)) [Ac (.a x0 (.a x1 (.n 1))) (.n 900)] rT this,by have:=R.units;show A.units+3+10*n<=9000;exact Cp (Ac (.a (.a x0 (.n 3)) (.m 10 x1)) (.n 9000)) [Ac (.a x0 (.m 10 (.a x1 (.n 1)))) (.n 9000)] rT this⟩,
  ⟨λx h=>(ekind x).trans h,λx h=>(ekind x).trans h,λx h=>.inr ((ekind x).trans h),λx h=>(ekind x).trans h⟩,I₁,{
  kind:=by rw[escope];exact Li.kind
  glob:=by rw[←hE];exact Li.glob
  bi:=by rw[←hE];exact Li.bi
  ns:=⟨_,by rw[eloc];exact hns,λi y e k d' hd'=>by
   cases i with
   |zero=>
    cases e;simp only[Be,lO4]at hd'
    cases hd';exact⟨v,by simp[List.lookup],Cr.mono g1.stb _ _ rv⟩
   |succ i=>cases e⟩
  cell:=λi y e k=>(nof y k).elim
  cok:=λy c e=>by rw[ecells]at e;cases e
  cinj:=λy z c e=>by rw[ecells]at e;cases e
  lrho:=by rw[eloc];exact I.size_notin
  lP:=lF1.mpr rfl
  own:=λp mp=>⟨by rw[lq0 mp,eloc];exact I.h0_size,.inl (lq0 mp)⟩
  tnd:=by simp},.inl rfl,.inl rfl⟩ r st1 _ _ hm λw s' ρ' K' x' r'=>kk w s' ρ' rfl K'.inv ((Ci.ev g1 z1).trans x') r')
noncomputable def zFb {α:Type}(o:Option PO)(f:Addr->Nat->Nat->Str->Option Nat->Re α):Re α:=match o with
 |some (.ctab T l c q k)=>f T l c q k
 |_=>.bot
theorem zDk{Z:Prop}{α:Type}{o:Option PO}{f:Addr->Nat->Nat->Str->Option Nat->Re α}{a:α}{st:St}(h:zFb o f=.ok a st)(w:∀T l c q k,o=some (.ctab T l c q k)->f T l c q k=.ok a st->Z):Z:=by
 cases o with
 |none=>exact Bv h
 |some o=>cases o<;>first|exact Bv h|exact w _ _ _ _ _ rfl h
noncomputable def Ts (q:Str):Option PO->Bool
 |some (.code q')=>q'==q
 |_=>false
theorem zBc{q:Str}{o:Option PO}(h:Ts q o=true):o=some (.code q):=by
 cases o with
 |none=>cases h
 |some o=>cases o<;>first|(cases h;done)|(rw[show _=q from lN8.mp h])
noncomputable def zJh (kt:Nat)(T:Addr)(l c:Nat)(q:Str):Option Nat->Mn Unit
 |none=>λst=>.ok () ⟨st.loc,st.sto.set kt (.ctab T l c q (some st.sto.length))++[.code q]⟩
 |some k=>λst=>(if Ts q st.sto[k]? =true then A8 ()else botM:Mn Unit) st
noncomputable def zBl (kt:Nat)(T:Addr)(l c:Nat)(q:Str):Mn Unit:=λst=>zFb st.sto[kt]? λT' l' c' q' k=>(if T'=T/\l'=l/\c'=c/\q'=q then zJh kt T l c q k else botM) st
structure zDh (G:Gd)(c T:Addr):Prop where
 hd:CodeHd G.h0 c T
 bi:∃mg bm ob,G.h0.Ns mainGlobals mg∧mg "__builtins__"=some (.ref bm)∧bm≠builtinsNs∧G.h0.get? bm=some ob∧ob.cls=.type "module"∧ob.dict=some builtinsNs∧ob.data=.plain
 lim:G.h0.NoLimit
theorem Nx{scope:Scope}(h:Is scope.names=true)(env:Env):closureFor scope env=pure []:=by
 unfold closureFor;have go:∀(l:List (Str×NameKind)) (cs:List (Str×Addr)),Is l=true->(forIn l cs λ(x:Str×NameKind) cs=>(if(x.2==NameKind.free)=true then(do let c ←cellOf env x.1;pure (ForInStep.yield ((x.1,c)::cs)))else pure (ForInStep.yield cs):Sem (ForInStep (List (Str×Addr)))))=pure cs:=by
  intro l
  induction l with
  |nil=>intro cs _;rfl
  |cons x l ih=>
   intro cs h;simp only[Is,List.all_cons,lH6]at h;have hx:(x.2==NameKind.free)=false:=by simpa using h.1
   rw[lJ3,hx];exact ih cs h.2
 have:=go scope.names [] h
 simp only[this,pure_bind]
theorem Dg.note(I:Dg G s ρ σ){kt:Nat}{T c':Addr}{l c:Nat}{q:Str}{h':Heap}(hk:ρ[kt]? =some T)(hx:Heap.ExtBut T s.heap h')(hge:s.heap.objs.size<=c')(hlt:c'<h'.objs.size)(hc:zAb h' c' q)
  (hT:h'.get? T=some (zNe #[rawInt l,rawInt c,.ref c'])) (t:Nat):Dg G {s with heap:=h',toks:=t} (ρ++[c']) (σ.set kt (.ctab T l c q (some σ.length))++[.code q])/\Ev [] s.heap ρ h' (ρ++[c']):=by
 have hTm:T∈ρ:=lD5 hk
 have hcr:c'∉ρ:=λm=>lL7 _ (lF5 (I.mem_lt m) hge)
 have hz:s.heap.objs.size<=h'.objs.size:=lM6 (lF3 hge hlt)
 have keep:∀b o,b∉ρ->s.heap.get? b=some o->b∉ρ++[c']/\h'.get? b=some o:=λb o n e=>
  ⟨λm=>(lJ6.mp m).elim n λm=>lL7 _ (lF5 (lM0 e) (lq0 m▸hge)),hx b o (λz=>n (z▸hTm)) e⟩
 have S:Lh s.heap ρ h' (ρ++[c']):=⟨E9,λa _ n t=>let⟨k,e⟩:=t;let⟨n',e'⟩:=keep a _ n e;⟨n',k,e'⟩⟩
 refine⟨⟨λb o e=>hx b o (λz=>?_) (I.base b o e),λa m=>?_,?_,by simp[I.len],λk a o e1 e2=>?_,I.os,I.gens⟩,⟨E9,λb o e n _=>⟨o,(keep b o n e).2,.refl o⟩,λa m=>(lJ6.mp m).imp id λm=>(by rw[lq0 m];exact hge),hz⟩⟩
 ·rw[z,I.new T hTm]at e;cases e
 ·rcases lJ6.mp m with m|m
  ·exact I.new a m
  ·rw[lq0 m];exact I.h0_le hge
 ·refine lG5.mpr ⟨I.nodup,by simp,λa m b m' e=>?_⟩
  rw[lq0 m']at e;exact hcr (e▸m)
 ·by_cases hk':k<ρ.length
  ·rw[lA6 hk']at e1;rw[lA6 (by rw[lJ4,←I.len];exact hk')]at e2
   by_cases hj:k=kt
   ·subst hj;rw[hk]at e1;cases e1;rw[lB8 (by rw[←I.len];exact hk')]at e2
    cases e2;exact⟨rfl,c',by rw[←I.len];simp,hT⟩
   ·rw[lD3 (Ne.symm hj)]at e2;exact(I.sto k a o e1 e2).mono S (λo ho=>hx a o (λz=>hj (Bx I.nodup (z▸e1) hk)) ho) hz
  ·have hkl:=(lq2 e1).1;have:k=ρ.length:=by simp at hkl;exact Du (λZ=>An [_,_] [Ae x1 x0,Ac x0 x1] rT Z (lN7.mp hk')) (λZ=>An [_,_] [Ae x0 x1,Ae x1 (.a x0 (.n 1))] rT Z hkl)
   subst this;rw[lA3 (by rw[lJ4,I.len];exact lN4 _),lJ4,I.len,lN1]at e2
   simp at e1 e2
   subst e1 e2;exact hc
noncomputable def zLw (F:Fr G C)(s:Shared)(ρ:List Addr)(st':St)(q:Str)(params:Arguments)(body:Expr)(scope:Scope)(Q:Value->Shared->Prop):Prop:=
 ∀(s':Shared) (f:Addr) (ρ':List Addr) (pm ctv:Value) (c':Addr) (kc:Nat),Ok F s' ρ' st'→Ev [] s.heap ρ s'.heap ρ'→f∉ρ'→s'.heap.get? f=some (kla_obj (Str.ofString "<lambda>") q params body scope [] pm c' ctv)→ρ'[kc]? =some c'→st'.sto[kc]? =some (.code q)→Q (.ref f) s'
theorem zFV{c T:Addr}{kt:Nat}{q:Str}{params:Arguments}{body:Expr}{scope:Scope}{pos:Pos}{Q:Value→Shared→Prop}{E:Value→Shared→Prop}{st':St}(LG:zDh G c T)(K:Ok F s ρ st)(hcd:C.code=.ref c)(hq:C.qual++"<lambda>"=q)(hcl:Is scope.names=true)(hdf:∀env,defaultsOf params env=([],[]))
  (hm:zBl kt T pos.line pos.col q st=.ok () st') (kk:zLw F s ρ st' q params body scope Q):wpAny G.M F.A (eval (.Lambda params body scope pos) F.env) Q E s:=by
 have hec:F.env.code=.ref c:=(K.code.resolve_left (λz=>by rw[hcd]at z;cases z)).trans hcd
 have heq:F.env.qual++"<lambda>"=q:=by rw[K.qual.resolve_left (λz=>by rw[hcd]at z;cases z)];exact hq
 have I:=K.inv;obtain⟨mg,bm,ob,b0,b1,b2,b3,b4,b5,b6⟩:=LG.bi;have hgs:s.heap.Ns mainGlobals mg:=b0.keeps I.base
 refine kla_eval (hdf F.env) ?_
 rw[heq];refine zDk hm λT' l' c₁ q' k e1 hm1=>Ft hm1 λhh hm2=>?_
 obtain⟨rfl,rfl,rfl,rfl⟩:=hh;obtain⟨a,ha⟩:∃a,ρ[kt]? =some a:=⟨_,lA9 (by rw[I.len];exact(lq2 e1).1)⟩
 obtain⟨rfl,ho⟩:=I.sto kt a _ ha e1;have hTn:G.h0.get? a=none:=I.new a (lD5 ha)
 have hgP:mainGlobals≠a:=λz=>by
  obtain⟨o,es,ep,e,_⟩:=b0;rw[z,hTn]at e;cases e
 have hbP:bm≠a:=λz=>by rw[z,hTn]at b3;cases b3
 have hbG:bm≠mainGlobals:=λz=>by
  obtain⟨o,es,ep,e,hd,_⟩:=b0;rw[z,e]at b3;cases b3;rw[hd]at b6;cases b6
 have CH:CodeHd s.heap c a:=LG.hd.keeps I.base
 cases k with
 |none=>
  cases hm2;have hP:s.heap.get? a=some (tabObj #[]):=ho
  rw[makeFunction_eq];simp only[List.zip_nil_right,List.filterMap_nil,List.isEmpty_nil,lO4,pure_bind];unfold makeTail;rw[Nx hcl,K.frm.glob];refine lN9 (lO1 ?_)
  dsimp only[List.isEmpty_nil,lO4]
  refine lN9 (lO1 ?_)
  refine lN9 (wpAny_functionCodeX hec (CH.code hP trivial) (CH.tab hP) rfl λc' h' tk hx hge hlt _ hrec htb hP'=>?_)
  apply yo;intro _ k0
  obtain⟨P',_,_,⟨⟨oc,vs,o1,o2,o3,_⟩,_⟩⟩:=hP';obtain⟨c₂,oc₂,vs₂,tq,z,y1,y2,y3⟩:=hrec;apply k0
  cases z;rw[o1]at y1;cases y1;have hg':=hgs.extBut hx hgP;refine lN9 (wpAny_builtinsFor hg' b1 b2 (hx _ _ hbP (I.base _ _ b3)) b4 b5 b6 ?_)
  refine lN9 (wpAny_nsGet hg' ?_)
  refine lN9 (lO1 (lH4 ?_ (by size_fits)))
  obtain⟨I1,x1⟩:=I.note (q:=q') (l:=pos.line) (c:=pos.col) ha hx hge hlt ⟨oc,vs₂,tq,o1,o2,y2,y3⟩ htb.2 tk
  have K1:=K.step (s':={s with heap:=h',toks:=tk}) I1 x1;exact kk _ h'.objs.size _ _ _ c' ρ.length (K1.grow (Ci.push _ _) Bj tk) (x1.trans ((Ci.push _ _).ev Bj)) I1.size_notin (lE1 _ rfl) (by simp) (by rw[I.len,lA3 (by rw[lJ4];exact lN4 _)];simp)
 |some k=>
  obtain⟨c',hc',hP⟩:=ho;have hP:s.heap.get? a=some (tabObj #[rawInt pos.line,rawInt pos.col,.ref c']):=hP
  have hm3:(if Ts q' st.sto[k]? =true then(A8 ():Mn Unit)else botM) st=.ok () st':=hm2
  refine Ft hm3 λe2 hm4=>?_
  cases hm4;refine kla_makeFunctionHit (mg:=mg) (Nx hcl F.env) K.frm.glob hgs hec CH hP (by trivial) (codeAmong_snoc [] trivial rfl) ⟨bm,ob,b1,b2,hbG,hbP,I.base _ _ b3,b4,b5,b6⟩ λctv h' tk hk hz=>?_
  have g1:Ev [] s.heap ρ h' ρ:=Ci.ev hk hz
  have K1:=K.grow (h':=h') hk hz tk;exact kk _ h'.objs.size _ _ ctv c' k (K1.grow (Ci.push _ _) Bj tk) (g1.trans ((Ci.push _ _).ev Bj)) K1.inv.size_notin (lE1 _ rfl) hc' (zBc e2)
theorem Yw(hs:Dj G (Str.ofString "sorted") (.builtin "sorted"))(hsn:C.names.lookup (Str.ofString "sorted")=some .globalImplicit)(LG:zDh G c T)(hcd:C.code=.ref c)(hq:C.qual++"<lambda>"=q)(hcl:Is scope.names=true)(hce:∀y,y∈scope.names→y.2≠.cell)(hdf:∀env,defaultsOf params env=([],[]))(hk:scope.kind=.function)(hco:scope.isCoroutine=false)(hgen:scope.isGenerator=false)(hpar:scope.names.lookup x=some .local)(hbi:∀pm c' ctv v,bindArgs (kla_fn (Str.ofString "<lambda>") q params body scope [] pm (.ref c') ctv) ⟨[v],[]⟩=pure [(x,v)])(hm:SE G ⟨scope.names,[x],n,.none,""⟩ body m)(hlv:n+2≤C.lvl)(he:SA G C [e] ms)(hst:∀env,starEach [e] env=[(false,eval e env)]):
  SE G C (.Call (.Name (Str.ofString "sorted") sp) [e] [⟨some (Str.ofString "key"),.Lambda params body scope lp,kp⟩] pos) (Af ms λds=>Af (zBl kt T lp.line lp.col q) λ_=>E4 (zF0 m) ds):=.mk <| λF s ρ st K d st' Q E hm0 kk=>Bk hm0 λds st1 e1 e2=>Bk e2 λ_ st2 e3 e4=>by
 refine lN9 (Ei K hs hsn (by decide) ?_)
 have hev:backTo pos (starEach [e] F.env)=(false,eval e F.env)::backTo pos (starEach [] F.env):=by rw[hst];rfl
 refine callWith_kw (he.run F s ρ st pos K ds st1 _ _ e1 λvs s1 ρ1 K1 x1 r1=>?_) hev (by rw[hev];rfl)
 refine kws_cons (zFV (kt:=kt) LG K1 hcd hq hcl hdf e3 λs2 f ρ2 pm ctv c' kc K2 x2 hfn hfo hkc hsc=>kws_nil ?_)
 cases ds with
 |nil=>exact Bv e4
 |cons dx ds=>
  cases ds with
  |cons _ _=>exact Bv e4
  |nil=>
   obtain⟨v,rfl,rv⟩:=Ja r1;refine Rn (P:=[]) (n:=n+1) (λs3 x3=>?_) K2 hlv (Cr.mono (x2.stb K1.inv .nil) _ _ rv) d st' _ _ e4 λw s4 ρ4 K4 x4 r4=>kk w s4 ρ4 K4 ((x1.trans x2).trans x4) r4
   intro A3 ds3 vs3 d3 st3 Q3 E3 R3 I3 r3 hm3 kk3;obtain⟨of,hof,hsame⟩:=x3.keep f _ hfo hfn (λm=>nomatch m)
   have hsf:zBn G (n+1) f (zF0 m) s3 ρ2 st2:=zJc (fd:=kla_fn (Str.ofString "<lambda>") q params body scope [] pm (.ref c') ctv) ⟨⟨of,hof,hsame.2.1⟩,rfl,rfl,rfl,rfl,hk,hco,hgen,hbi pm c' ctv,hpar,hce,λy my z=>by
    have:=lH7.mp hcl y my
    rw[z]at this;simp at this,(by obtain⟨oc,vs,t,y1,_,y3,y4⟩:=I3.sto kc c' _ hkc hsc;exact⟨c',oc,vs,t,rfl,y1,y3,y4⟩)⟩ LG.lim hm
   exact hsf A3 ds3 vs3 d3 st3 Q3 E3 R3 I3 r3 hm3 kk3
end
end
noncomputable def ob {α β:Type}(o:Option α)(f:α->Option β):Option β:=match o with
 |some a=>f a
 |none=>none
theorem zGN{α β:Type}{o:Option α}{f:α->Option β}{b:β}(h:ob o f=some b):∃a,o=some a/\f a=some b:=by
 cases o with
 |none=>cases h
 |some a=>exact⟨a,rfl,h⟩
theorem Au{α β:Type}{o:Option α}{f:α->Option β}{b:β}{P:Prop}(h:ob o f=some b)(k:∀a,o=some a->f a=some b->P):P:=by obtain⟨a,x,y⟩:=zGN h;exact k a x y
noncomputable def gd {α:Type}(c:Bool)(o:Option α):Option α:=match c with
 |true=>o
 |false=>none
theorem C4{P:Prop}(h:gd c o=some a)(k:c=true->o=some a->P):P:=by
 cases c with
 |true=>exact k rfl h
 |false=>cases h
theorem Am{α:Type}{a b:α}{P:α->Prop}(h:some a=some b)(k:P a):P b:=by cases h;exact k
theorem Bc{α:Type}{b:α}{P:Prop}(h:none=some b):P:=by cases h
theorem B9{P:Prop}(h:(a&&b)=true)(k:a=true->b=true->P):P:=by
 cases a with
 |true=>exact k rfl h
 |false=>cases h
theorem not_true(h:(!b)=true):b=false:=by cases b<;>first|rfl|cases h
noncomputable def P6 (x:Str):List Str->Option Nat
 |[]=>none
 |y::r=>match y==x with
  |true=>some 0
  |false=>ob (P6 x r) λi=>some (i+1)
theorem Ek{x:Str}:∀{l:List Str}{i:Nat},P6 x l=some i->l[i]? =some x
 |[],i,h=>by cases h
 |y::r,i,h=>by
  have h:(match y==x with|true=>some 0|false=>ob (P6 x r) λi=>some (i+1))=some i:=h
  cases e:y==x with
  |true=>rw[e]at h;cases h;simp[lN8.mp e]
  |false=>rw[e]at h;exact Au h λj hj h=>Am (P:=λi=>(y::r)[i]? =some x) h (by simpa using Ek hj)
noncomputable def Cl (e:Expr):Bool:=!(Nat.beq e.ctorIdx 22)
theorem D0(h:Cl e=true)(env:Env):starEach (e::es) env=(false,eval e env)::starEach es env:=by cases e<;>first|rfl|cases h
theorem O2(h:Cl e=true)(env:Env):assignEach (e::es) env=(false,assign e env)::assignEach es env:=by cases e<;>first|rfl|cases h
theorem Gq(env:Env):∀{es:List Expr},es.all Cl=true->(backTo pos (starEach es env)).any (·.1)=false
 |[],_=>rfl
 |e::es,h=>B9 h λh1 h2=>by
  rw[D0 h1];show(false||(backTo pos (starEach es env)).any (·.1))=false
  rw[lL3];exact Gq env h2
theorem Ut(env:Env):∀{es:List Expr},es.all Cl=true->(backTo pos (starEach es env)).all (!·.1)=true
 |[],_=>rfl
 |e::es,h=>B9 h λh1 h2=>by
  rw[D0 h1];show(true&&(backTo pos (starEach es env)).all (!·.1))=true
  rw[Bool.true_and];exact Ut env h2
theorem Yt(env:Env)(h:es.all Cl=true)(hl:decide (es.length<30)=true):methodCallForm (es.length+([]:List Keyword).length) (backTo pos (starEach es env)) (backToKw pos (keywordEach [] env))=true:=by
 unfold methodCallForm;rw[Ut env h];exact hl
noncomputable def Y4 (e:Expr):Bool:=!(Nat.beq e.ctorIdx 7)
theorem Rz(h:Y4 e=true)(env:Env)(x:Value):foldedSetIterable e env x=pure x:=by cases e<;>first|rfl|cases h
noncomputable def Lu (e:Expr):Bool:=!(Nat.beq e.ctorIdx 8||Nat.beq e.ctorIdx 9||Nat.beq e.ctorIdx 10)
theorem Oy(h:Lu e=true)(t:Option Expr)(l:Nat)(env:Env):swapsWith e t l env=pure false:=by cases e<;>first|rfl|cases h
noncomputable def Ii {α:Type}:(b:Bool)->(b=true->α)->α->α
 |true,t,_=>t rfl
 |false,_,f=>f
theorem bq{a b:Nat}(h:Nat.beq a b=true):a=b:=Nat.eq_of_beq_eq_true h
theorem Cb{α:Type}{b:Bool}{t:b=true->α}{f a:α}{P:Prop}(h:Ii b t f=a)(k1:∀hb,t hb=a->P)(k2:f=a->P):P:=by
 cases b with
 |true=>exact k1 rfl h
 |false=>exact k2 h
theorem zEC{e:Expr}(h:Nat.beq e.ctorIdx 16=true):∃f as ks p,e=.Call f as ks p:=Expr.Call.elim (motive_1:=λe=>∃f as ks p,e=.Call f as ks p) e (bq h) λf as ks p=>⟨f,as,ks,p,rfl⟩
theorem Mb{e:Expr}(h:Nat.beq e.ctorIdx 23=true):∃x p,e=.Name x p:=Expr.Name.elim (motive_1:=λe=>∃x p,e=.Name x p) e (bq h) λx p=>⟨x,p,rfl⟩
theorem zBX{e:Expr}(h:Nat.beq e.ctorIdx 26=true):∃a b c p,e=.Slice a b c p:=Expr.Slice.elim (motive_1:=λe=>∃a b c p,e=.Slice a b c p) e (bq h) λa b c p=>⟨a,b,c,p,rfl⟩
theorem zAZ{e:Expr}(h:Nat.beq e.ctorIdx 25=true):∃a b p,e=.Tuple a b p:=Expr.Tuple.elim (motive_1:=λe=>∃a b p,e=.Tuple a b p) e (bq h) λa b p=>⟨a,b,p,rfl⟩
theorem zFM{e:Expr}(h:Nat.beq e.ctorIdx 6=true):∃a b p,e=.Dict a b p:=Expr.Dict.elim (motive_1:=λe=>∃a b p,e=.Dict a b p) e (bq h) λa b p=>⟨a,b,p,rfl⟩
theorem zG4{e:Expr}(h:Nat.beq e.ctorIdx 21=true):∃a b p,e=.Subscript a b p:=Expr.Subscript.elim (motive_1:=λe=>∃a b p,e=.Subscript a b p) e (bq h) λa b p=>⟨a,b,p,rfl⟩
theorem zHN{e:Expr}(h:Nat.beq e.ctorIdx 4=true):∃a b c p,e=.Lambda a b c p:=Expr.Lambda.elim (motive_1:=λe=>∃a b c p,e=.Lambda a b c p) e (bq h) λa b c p=>⟨a,b,c,p,rfl⟩
theorem zC7{e:Expr}(h:Nat.beq e.ctorIdx 20=true):∃a b p,e=.Attribute a b p:=Expr.Attribute.elim (motive_1:=λe=>∃a b p,e=.Attribute a b p) e (bq h) λa b p=>⟨a,b,p,rfl⟩
theorem zFN{e:Expr}(h:Nat.beq e.ctorIdx 8=true):∃a b c p,e=.ListComp a b c p:=Expr.ListComp.elim (motive_1:=λe=>∃a b c p,e=.ListComp a b c p) e (bq h) λa b c p=>⟨a,b,c,p,rfl⟩
theorem zLH{e:Expr}(h:Nat.beq e.ctorIdx 3=true):∃a b p,e=.UnaryOp a b p:=Expr.UnaryOp.elim (motive_1:=λe=>∃a b p,e=.UnaryOp a b p) e (bq h) λa b p=>⟨a,b,p,rfl⟩
theorem zDR{e:Expr}(h:Nat.beq e.ctorIdx 0=true):∃a b p,e=.BoolOp a b p:=Expr.BoolOp.elim (motive_1:=λe=>∃a b p,e=.BoolOp a b p) e (bq h) λa b p=>⟨a,b,p,rfl⟩
theorem zGd{e:Expr}(h:Nat.beq e.ctorIdx 15=true):∃a b c p,e=.Compare a b c p:=Expr.Compare.elim (motive_1:=λe=>∃a b c p,e=.Compare a b c p) e (bq h) λa b c p=>⟨a,b,c,p,rfl⟩
theorem zA7{e:Stmt}(h:Nat.beq e.ctorIdx 5=true):∃a b p,e=.Assign a b p:=Stmt.Assign.elim (motive_2:=λe=>∃a b p,e=.Assign a b p) e (bq h) λa b p=>⟨a,b,p,rfl⟩
theorem zLN{e:Stmt}(h:Nat.beq e.ctorIdx 11=true):∃a b c p,e=.While a b c p:=Stmt.While.elim (motive_2:=λe=>∃a b c p,e=.While a b c p) e (bq h) λa b c p=>⟨a,b,c,p,rfl⟩
theorem zH7{e:Stmt}(h:Nat.beq e.ctorIdx 17=true):∃a b c d p,e=.Try a b c d p:=Stmt.Try.elim (motive_2:=λe=>∃a b c d p,e=.Try a b c d p) e (bq h) λa b c d p=>⟨a,b,c,d,p,rfl⟩
theorem zAr{e:Stmt}(h:Nat.beq e.ctorIdx 16=true):∃a b p,e=.Raise a b p:=Stmt.Raise.elim (motive_2:=λe=>∃a b p,e=.Raise a b p) e (bq h) λa b p=>⟨a,b,p,rfl⟩
theorem zHy{e:Stmt}(h:Nat.beq e.ctorIdx 3=true):∃a p,e=.Return a p:=Stmt.Return.elim (motive_2:=λe=>∃a p,e=.Return a p) e (bq h) λa p=>⟨a,p,rfl⟩
theorem zKf{e:Stmt}(h:Nat.beq e.ctorIdx 24=true):∃a p,e=.Expr a p:=Stmt.Expr.elim (motive_2:=λe=>∃a p,e=.Expr a p) e (bq h) λa p=>⟨a,p,rfl⟩
theorem zDq{e:Stmt}(h:Nat.beq e.ctorIdx 25=true):∃p,e=.Pass p:=Stmt.Pass.elim (motive_2:=λe=>∃p,e=.Pass p) e (bq h) λp=>⟨p,rfl⟩
theorem zHQ{e:Stmt}(h:Nat.beq e.ctorIdx 26=true):∃p,e=.Break p:=Stmt.Break.elim (motive_2:=λe=>∃p,e=.Break p) e (bq h) λp=>⟨p,rfl⟩
theorem zEr{e:Stmt}(h:Nat.beq e.ctorIdx 27=true):∃p,e=.Continue p:=Stmt.Continue.elim (motive_2:=λe=>∃p,e=.Continue p) e (bq h) λp=>⟨p,rfl⟩
theorem zJ0{e:Stmt}(h:Nat.beq e.ctorIdx 12=true):∃a b c p,e=.If a b c p:=Stmt.If.elim (motive_2:=λe=>∃a b c p,e=.If a b c p) e (bq h) λa b c p=>⟨a,b,c,p,rfl⟩
theorem zIJ{e:Stmt}(h:Nat.beq e.ctorIdx 9=true):∃a b c d p,e=.For a b c d p:=Stmt.For.elim (motive_2:=λe=>∃a b c d p,e=.For a b c d p) e (bq h) λa b c d p=>⟨a,b,c,d,p,rfl⟩
noncomputable def zNa {α:Type}:Option α->Option α->Option α
 |some a,_=>some a
 |none,o=>o
theorem zCp{α:Type}{o p:Option α}{a:α}{P:Prop}(h:zNa o p=some a)(k1:o=some a->P)(k2:p=some a->P):P:=by
 cases o with
 |some _=>exact k1 h
 |none=>exact k2 h
noncomputable def Ox (e:Expr):Option (Expr×List Expr×List Keyword):=Ii (Nat.beq e.ctorIdx 16) (λh=>Expr.Call.elim e (bq h) λf as ks _=>some (f,as,ks))
  (none)
theorem Tl{e:Expr}{q:Expr×List Expr×List Keyword}(h:Ox e=some q):∃p,e=.Call q.1 q.2.1 q.2.2 p:=by
 refine Cb h (λhb h=>?_) Bc
 obtain⟨f,as,ks,p,rfl⟩:=zEC hb
 cases h;exact⟨p,rfl⟩
noncomputable def Rp (e:Expr):Bool:=match Ox e with
 |some q=>!q.2.1.isEmpty
 |none=>true
theorem U3(h:Rp o=true)(env:Env):attributeBase o name env (eval o env)=eval o env:=by
 generalize eval o env=w
 cases o with
 |Call f as ks p=>
  cases as with
  |nil=>cases h
  |cons a r=>cases f<;>rfl
 |_=>rfl
noncomputable def Rd (e:Expr):Bool:=!(Nat.beq e.ctorIdx 0||Nat.beq e.ctorIdx 3||Nat.beq e.ctorIdx 5||Nat.beq e.ctorIdx 15)
theorem zGH(h:Rd e=true)(env:Env)(w:Sem Value):isTrue e env w=(do let v ←w;standAt e.pos;holding [v] (truthy v)):=by
 cases e<;>first|rfl|cases h
noncomputable def Vl (e:Expr):Bool:=!(Nat.beq e.ctorIdx 26)
theorem zGX(h:Vl e=true)(o i:Value):subscripted e false o i=operate [o,i] (getItem o i):=by cases e<;>first|rfl|cases h
noncomputable def Iq (e:Expr):Option Str:=Ii (Nat.beq e.ctorIdx 23) (λh=>Expr.Name.elim e (bq h) λx _=>some x)
  (none)
structure zCU where
 e:Cx->Expr->Option (Mn D)
 b:Cx->Expr->Option (Mn Bool)
 s:Cx->List Stmt->Option (Mn Fl)
structure Cm (G:Gd)(X:zCU):Prop where
 e:∀C x m,X.e C x=some m->SE G C x m
 b:∀C x m,X.b C x=some m->SB G C x m
 s:∀C x m,X.s C x=some m->Xj G C x m
structure Tb where
 fns:List (Str×(Addr×Nat×(List D->Mn D)))
 nums:List (Str×Int)
 bf:List (Str×(String×(List D->Mn D)))
 tv:List (Str×(String×(List D->Mn D)))
 ts:List (Str×(String×Bool×(List D->Mn Js)))
 sm:List (Str×(String×(Str->List D->Mn D)))
 ty:List (Str×String)
 bin:Operator->Option (D->D->Mn D)
 cmp:CmpOp->Option (D->D->Mn D)
 me:Str->Mn D->List (Mn D)->Option (Mn D)
 so:(List D->Mn D)->Option (List D->Mn D)
 sl:(Cx->Expr->Option (Mn D))->Cx->Expr->Option (List D->Mn D)
 xe:zCU->Cx->Expr->Option (Mn D)
 xs:zCU->Cx->Stmt->Option (Mn Fl)
noncomputable def zAc (e:Expr):Bool:=Nat.beq e.ctorIdx 25
noncomputable def zD2 (G:Gd)(F F':List D→Mn D):Prop:=∀(C:Cx) (g:Str) (f:Addr) (n:Nat) (e:Expr) (ms:Mn (List D)) (sp np pos kp:Pos),C.names.lookup (Str.ofString "sorted")=some .globalImplicit→Fs G g (.ref f)→C.names.lookup g=some .globalImplicit→(g==("__debug__":Str))=false→SF G n f F→n+1≤C.lvl→SA G C [e] ms→(∀env,starEach [e] env=[(false,eval e env)])→
 SE G C (.Call (.Name (Str.ofString "sorted") sp) [e] [⟨some (Str.ofString "key"),.Name g np,kp⟩] pos) (Af ms F')
theorem zCO(hs:Dj G (Str.ofString "sorted") (.builtin "sorted"))(h:some (E4 F)=some F'):zD2 G F F':=λC g f n e ms sp np pos kp h1 h2 h3 h4 h5 h7 h8 h9=>by
 obtain rfl:=lK2 h;exact zBg hs h1 h2 h3 h4 h5 h7 h8 h9
structure C5 (G:Gd)(T:Tb):Prop where
 fns:∀f a n F,T.fns.lookup f=some (a,n,F)->Fs G f (.ref a)/\(∃o fd,G.h0.get? a=some o/\o.data=.func fd)/\SF G n a F
 nums:∀x i,T.nums.lookup x=some i->∃t,Fs G x (.int i t)
 bf:∀f n F,T.bf.lookup f=some (n,F)->Dj G f (.builtin n)/\BF G n F
 tv:∀f n F,T.tv.lookup f=some (n,F)->Dj G f (.type n)/\TF G n F
 ts:∀f n b F,T.ts.lookup f=some (n,b,F)->Dj G f (.type n)/\∃tg,zCN G n tg F/\∀t,(!b||zAc t)=true->tg t
 sm:∀f n F,T.sm.lookup f=some (n,F)->SM G f n F
 ty:∀f n,T.ty.lookup f=some n->Dj G f (.type n)/\zBp n
 isi:Dj G (Str.ofString "isinstance") (.builtin "isinstance")
 bin:∀op f,T.bin op=some f->Hc G op f
 cmp:∀op f,T.cmp op=some f->Ed G op f
 me:∀C o as name mo ms m apos pos,SE G C o mo->Bs (λa m=>SE G C a m) as ms->T.me name mo ms=some m->Rp o=true->as.all Cl=true->decide (as.length<30)=true->(apos.endLine==pos.line)=true->SE G C (.Call (.Attribute o name apos) as [] pos) m
 so:∀F F',T.so F=some F'->zD2 G F F'
 sl:∀X C v F e ms sp pos kp,(∀C x m,X C x=some m→SE G C x m)→T.sl X C v=some F→C.names.lookup (Str.ofString "sorted")=some .globalImplicit→SA G C [e] ms→(∀env,starEach [e] env=[(false,eval e env)])→
  SE G C (.Call (.Name (Str.ofString "sorted") sp) [e] [⟨some (Str.ofString "key"),v,kp⟩] pos) (Af ms F)
 xe:∀X C e m,Cm G X->T.xe X C e=some m->SE G C e m
 xs:∀X C t m,Cm G X->T.xs X C t=some m->SS G C t m
noncomputable def Ix (C:Cx)(x:Str):Bool:=match C.names.lookup x with
 |some .globalImplicit=>true
 |_=>false
theorem Do(h:Ix C x=true):C.names.lookup x=some .globalImplicit:=by
 unfold Ix at h
 cases e:C.names.lookup x with
 |none=>rw[e]at h;cases h
 |some k=>rw[e]at h;cases k<;>first|rfl|cases h
noncomputable def zJN (T:Tb)(C:Cx)(x:Str):NameKind->Option (Mn D)
 |.local=>ob (P6 x C.tbl) λi=>some (A6 i)
 |.cell=>gd (!(x==("__classdict__":Str))) (ob (P6 x C.tbl) λi=>some (A6 i))
 |.free=>gd (!(x==("__classdict__":Str))) (ob (P6 x C.tbl) λi=>some (A6 i))
 |.globalImplicit=>ob (T.nums.lookup x) λi=>some (A8 (.int i))
 |_=>none
noncomputable def zJI (T:Tb)(C:Cx)(x:Str):Option (Mn D):=gd (!(x==("__debug__":Str))) (ob (C.names.lookup x) (zJN T C x))
section
variable (T:Tb) (X:zCU) (C:Cx)
noncomputable def Jh:List Expr->Option (Mn (List D))
 |[]=>some Ai
 |e::es=>gd (Cl e) (ob (X.e C e) λm=>ob (Jh es) λms=>some (A9 m ms))
noncomputable def zEd:List Expr->Option (List (Mn D))
 |[]=>some []
 |e::es=>ob (X.e C e) λm=>ob (zEd es) λms=>some (m::ms)
noncomputable def zLu (b:Bool)(x:Str):NameKind->Option (D->Bm->Option Bm)
 |.local=>ob (P6 x C.tbl) λi=>some (As i)
 |.cell=>gd b (ob (P6 x C.tbl) λi=>some (As i))
 |_=>none
noncomputable def zGB (b:Bool)(e:Expr):Option (D->Bm->Option Bm):=ob (Iq e) λx=>ob (C.names.lookup x) (zLu C b x)
noncomputable def zD7 (b:Bool):List Expr->Option (List D->Bm->Option Bm)
 |[]=>some Fz
 |t::r=>ob (zGB C b t) λf=>ob (zD7 b r) λg=>some (Bl f g)
noncomputable def zJ1 (b:Bool)(e:Expr):Option (D->Bm->Option Bm):=Ii (Nat.beq e.ctorIdx 25) (λh=>Expr.Tuple.elim e (bq h) λts _ _=>ob (zD7 C b ts) λf=>some (Jg ts.length f))
  (Ii (Nat.beq e.ctorIdx 23) (λh=>Expr.Name.elim e (bq h) λx p=>zGB C b (.Name x p))
  (none))
noncomputable def zOI (tgt:Expr)(as:List Expr)(f:Str):Option (String×Bool×(List D->Mn Js))->Option (Mn Js)
 |some (_,b,F)=>gd ((!b||zAc tgt)&&!(f==("__debug__":Str))&&Ix C f&&as.all Cl&&!as.isEmpty) (ob (Jh X C as) λms=>some (Af ms F))
 |none=>none
noncomputable def Yl (e:Expr):Option (Str×List Expr):=ob (Ox e) λq=>gd q.2.2.isEmpty (ob (Iq q.1) λf=>some (f,q.2.1))
noncomputable def zHv (tgt e:Expr):Option (Mn Js):=match ob (Yl e) λp=>ob (T.ts.lookup p.1) λq=>some (p,q)with
 |some (p,q)=>zOI X C tgt p.2 p.1 (some q)
 |none=>ob (X.e C e) λm=>some (Af m Bq)
noncomputable def zMo:List Expr->Option (Mn Bool)
 |[]=>some (A8 true)
 |c::r=>gd r.isEmpty (X.b C c)
noncomputable def Jy (names:List (Str×NameKind)):Nat->List Str->List Nat
 |_,[]=>[]
 |i,x::r=>bif names.lookup x==some .local then i::Jy names (i+1) r else Jy names (i+1) r
noncomputable def zNZ (elt:Expr)(gs:List Comprehension)(scope:Scope):Option (Mn D):=match gs with
 |[]=>none
 |g::r=>gd (r.isEmpty&&g.is_async==0&&zDn C scope (Jy scope.names 0 C.tbl)&&Y4 g.iter)
  (ob (zHv T X C g.target g.iter) λmi=>ob (zJ1 ⟨scope.names,C.tbl,C.lvl,C.code,C.qual⟩ false g.target) λtf=>ob (zMo X ⟨scope.names,C.tbl,C.lvl,C.code,C.qual⟩ g.ifs) λmt=>ob (X.e ⟨scope.names,C.tbl,C.lvl,C.code,C.qual⟩ elt) λme=>some (Af mi (C7 (Jy scope.names 0 C.tbl) tf mt me)))
noncomputable def zOJ:BoolOp->Mn D->Mn D->Mn D
 |.And=>L8
 |.Or=>zOk
noncomputable def zOB:BoolOp->Mn Bool->Mn Bool->Mn Bool
 |.And=>Oa
 |.Or=>Ms
noncomputable def zOK (op:BoolOp):List Expr->Option (Mn D)
 |[]=>none
 |e::r=>match r with
  |[]=>X.e C e
  |_::_=>ob (X.e C e) λm=>ob (zOK op r) λn=>some (zOJ op m n)
noncomputable def zOR (op:BoolOp):List Expr->Option (Mn Bool)
 |[]=>none
 |e::r=>match r with
  |[]=>X.b C e
  |_::_=>ob (X.b C e) λm=>ob (zOR op r) λn=>some (zOB op m n)
noncomputable def zL4:Option Expr->Option (Option (Mn D))
 |none=>some none
 |some e=>ob (X.e C e) λm=>some (some m)
noncomputable def zMK (f:Str)(as:List Expr):Option (Mn D):=match as with
 |a::t::r=>gd (f==Str.ofString "isinstance"&&r.isEmpty) (ob (Iq t) λt=>gd (Ix C t&&!(t==("__debug__":Str))) (ob (T.ty.lookup t) λtn=>ob (X.e C a) λm=>some (Af m (Hl tn))))
 |_=>none
noncomputable def zDZ (f:Str)(as:List Expr):Option (Mn D):=match T.fns.lookup f with
 |some (_,n,F)=>gd (decide (n<=C.lvl)) (ob (Jh X C as) λms=>some (Af ms F))
 |none=>match T.bf.lookup f with
  |some (_,F)=>ob (Jh X C as) λms=>some (Af ms F)
  |none=>match T.tv.lookup f with
   |some (_,F)=>ob (Jh X C as) λms=>some (Af ms F)
   |none=>zMK T X C f as
noncomputable def zIj (f:Str)(as:List Expr)(v:Expr):Option Str->Option (Mn D)
 |some g=>gd (Ix C g&&!(g==("__debug__":Str))) (ob (T.fns.lookup g) λp=>gd (decide (p.2.1+1≤C.lvl)) (ob (T.so p.2.2) λF=>ob (Jh X C as) λms=>some (Af ms F)))
 |none=>ob (T.sl X.e C v) λF=>ob (Jh X C as) λms=>some (Af ms F)
noncomputable def zJQ (f:Str)(as:List Expr)(k:Keyword):Option (Mn D):=
 gd (f==Str.ofString "sorted"&&Ix C f&&k.arg==some (Str.ofString "key")&&as.length==1&&as.all Cl) (zIj T X C f as k.value (Iq k.value))
noncomputable def zIu (f:Str)(as:List Expr):List Keyword->Option (Mn D)
 |[]=>gd (!(f==("__debug__":Str))&&Ix C f&&as.all Cl&&!as.isEmpty) (zDZ T X C f as)
 |k::r=>gd r.isEmpty (zJQ T X C f as k)
noncomputable def zFG (o:Expr)(name:Str)(as:List Expr):Option (Mn D):=match T.sm.lookup name with
 |some (_,F)=>gd (!as.isEmpty) (ob (X.e C o) λm=>ob (Jh X C as) λms=>some (Af m (strM λx=>Af ms (F x))))
 |none=>ob (X.e C o) λm=>ob (zEd X C as) λms=>T.me name m ms
noncomputable def zE2:Const->Option (Mn D)
 |.int i=>some (A8 (.int i))
 |.str x=>some (A8 (.str x))
 |.bool b=>some (A8 (.bool b))
 |.none=>some (A8 .none)
 |_=>none
noncomputable def zOf (e:Expr):UnaryOp->Option (Mn D)
 |.Not=>ob (X.e C e) λm=>some (zGK m)
 |.USub=>ob (X.e C e) λm=>some (Af m zH8)
 |_=>none
noncomputable def zMU (l:Expr)(ops:List CmpOp)(rs:List Expr):Option (Mn D):=match ops with
 |op::o'=>(match rs with
  |r::r'=>gd (o'.isEmpty&&r'.isEmpty&&!behindInMarks op r) (ob (T.cmp op) λf=>ob (X.e C l) λa=>ob (X.e C r) λb=>some (Ad f a b))
  |[]=>none)
 |[]=>none
noncomputable def Tj (e:Expr):Option (Option Expr×Option Expr):=Ii (Nat.beq e.ctorIdx 26) (λh=>Expr.Slice.elim e (bq h) λlo hi st _=>gd st.isNone (some (lo,hi)))
  (none)
noncomputable def zLU (v sl:Expr):Option (Mn D):=match Tj sl with
 |some p=>ob (X.e C v) λm=>ob (zL4 X C p.1) λml=>ob (zL4 X C p.2) λmh=>some (Fb m ml mh)
 |none=>gd (Vl sl) (ob (X.e C v) λm=>ob (X.e C sl) λi=>some (Ad Aj m i))
noncomputable def zOh (f:Expr)(as:List Expr)(ks:List Keyword)(pos:Pos):Option (Mn D):=Ii (Nat.beq f.ctorIdx 23) (λh=>Expr.Name.elim f (bq h) λx _=>zIu T X C x as ks)
  (Ii (Nat.beq f.ctorIdx 20) (λh=>Expr.Attribute.elim f (bq h) λo name apos=>gd (ks.isEmpty&&Rp o&&as.all Cl&&decide (as.length<30)&&apos.endLine==pos.line) (zFG T X C o name as))
  (none))
noncomputable def zIt (e:Expr):Option (Mn D):=Ii (Nat.beq e.ctorIdx 19) (λh=>Expr.Constant.elim e (bq h) λc _ _=>zE2 c)
  (Ii (Nat.beq e.ctorIdx 23) (λh=>Expr.Name.elim e (bq h) λx _=>zJI T C x)
  (Ii (Nat.beq e.ctorIdx 2) (λh=>Expr.BinOp.elim e (bq h) λl op r _=>ob (T.bin op) λf=>ob (X.e C l) λa=>ob (X.e C r) λb=>some (Ad f a b))
  (Ii (Nat.beq e.ctorIdx 3) (λh=>Expr.UnaryOp.elim e (bq h) λop e _=>zOf X C e op)
  (Ii (Nat.beq e.ctorIdx 0) (λh=>Expr.BoolOp.elim e (bq h) λop es _=>zOK X C op es)
  (Ii (Nat.beq e.ctorIdx 15) (λh=>Expr.Compare.elim e (bq h) λl ops rs _=>zMU T X C l ops rs)
  (Ii (Nat.beq e.ctorIdx 21) (λh=>Expr.Subscript.elim e (bq h) λv sl _=>zLU X C v sl)
  (Ii (Nat.beq e.ctorIdx 24) (λh=>Expr.List.elim e (bq h) λes _=>ob (Jh X C es) λms=>some (Cs ms))
  (Ii (Nat.beq e.ctorIdx 25) (λh=>Expr.Tuple.elim e (bq h) λes _ _=>ob (Jh X C es) λms=>some (D6 ms))
  (Ii (Nat.beq e.ctorIdx 8) (λh=>Expr.ListComp.elim e (bq h) λelt gs scope _=>zNZ T X C elt gs scope)
  (Ii (Nat.beq e.ctorIdx 16) (λh=>Expr.Call.elim e (bq h) λf as ks pos=>zNa (zOh T X C f as ks pos) (T.xe X C (.Call f as ks pos)))
  (T.xe X C e)))))))))))
noncomputable def zOa (e:Expr)(p:Pos):UnaryOp->Option (Mn Bool)
 |.Not=>ob (X.b C e) λm=>some (Hp m)
 |op=>ob (X.e C (.UnaryOp op e p)) λm=>some (Af m B5)
noncomputable def zME (l r:Expr)(op:CmpOp):Option (Mn Bool):=gd (!behindInMarks op r) (ob (T.cmp op) λf=>ob (X.e C l) λa=>ob (X.e C r) λb=>some (C1 f a b))
noncomputable def zMe (l r q:Expr)(op op':CmpOp):Option (Mn Bool):=gd (!lastMarks [op,op'] [r,q]) (ob (T.cmp op) λf=>ob (T.cmp op') λg=>ob (X.e C l) λa=>ob (X.e C r) λb=>ob (X.e C q) λc=>some (zM4 f g a b c))
noncomputable def zM3 (l:Expr)(ops:List CmpOp)(rs:List Expr):Option (Mn Bool):=match ops with
 |[]=>none
 |op::o1=>(match rs with
  |[]=>none
  |r::r1=>(match o1 with
   |[]=>(match r1 with
    |[]=>zME T X C l r op
    |_::_=>none)
   |op'::o2=>(match o2 with
    |_::_=>none
    |[]=>(match r1 with
     |[]=>none
     |q::r2=>(match r2 with
      |_::_=>none
      |[]=>zMe T X C l r q op op')))))
noncomputable def zIv (e:Expr):Option (Mn Bool):=Ii (Nat.beq e.ctorIdx 3) (λh=>Expr.UnaryOp.elim e (bq h) λop e p=>zOa X C e p op)
  (Ii (Nat.beq e.ctorIdx 0) (λh=>Expr.BoolOp.elim e (bq h) λop es _=>zOR X C op es)
  (Ii (Nat.beq e.ctorIdx 15) (λh=>Expr.Compare.elim e (bq h) λl ops rs _=>zM3 T X C l ops rs)
  (gd (Rd e) (ob (X.e C e) λm=>some (Af m B5)))))
noncomputable def zMx (k:NameKind)(x:Str)(np:Pos)(i:Nat)(e:Expr):Option (Mn Fl):=Ii (Nat.beq e.ctorIdx 8) (λh=>Expr.ListComp.elim e (bq h) λelt gs scope cpos=>gd (match k with
   |.local=>(np.line==cpos.line)&&!(scope.names.any λp=>p.1==x&&(p.2== .local||p.2== .cell))
   |_=>true) (ob (zNZ T X C elt gs scope) λm=>some (Af m (Ah i))))
  (gd (Lu e) (ob (X.e C e) λm=>some (Af m (Ah i))))
noncomputable def zM5 (x:Str)(np:Pos)(e:Expr):NameKind->Option (Mn Fl)
 |.local=>ob (P6 x C.tbl) λi=>zMx T X C .local x np i e
 |.cell=>ob (P6 x C.tbl) λi=>zMx T X C .cell x np i e
 |_=>none
noncomputable def zNt (e t:Expr):Option (Mn Fl):=Ii (Nat.beq t.ctorIdx 23) (λh=>Expr.Name.elim t (bq h) λx np=>ob (C.names.lookup x) (zM5 T X C x np e)) none
noncomputable def zMl (e:Expr):List Expr->Option (Mn Fl)
 |[]=>none
 |t::r=>gd r.isEmpty (zNt T X C e t)
noncomputable def stepS (t:Stmt):Option (Mn Fl):=Ii (Nat.beq t.ctorIdx 3) (λh=>Stmt.Return.elim t (bq h) λv _=>ob v λe=>ob (X.e C e) λm=>some (Ca m))
  (Ii (Nat.beq t.ctorIdx 24) (λh=>Stmt.Expr.elim t (bq h) λe _=>gd (Lu e) (ob (X.e C e) λm=>some (Af m Ct)))
  (Ii (Nat.beq t.ctorIdx 25) (λh=>Stmt.Pass.elim t (bq h) λ_=>some (A8 .next))
  (Ii (Nat.beq t.ctorIdx 26) (λh=>Stmt.Break.elim t (bq h) λ_=>some (A8 .brk))
  (Ii (Nat.beq t.ctorIdx 27) (λh=>Stmt.Continue.elim t (bq h) λ_=>some (A8 .cont))
  (Ii (Nat.beq t.ctorIdx 12) (λh=>Stmt.If.elim t (bq h) λt a b _=>ob (X.b C t) λmt=>ob (X.s C a) λma=>ob (X.s C b) λmb=>some (Ex mt ma mb))
  (Ii (Nat.beq t.ctorIdx 9) (λh=>Stmt.For.elim t (bq h) λt i b o _=>gd (Y4 i&&o.isEmpty) (ob (zHv T X C t i) λmi=>ob (zJ1 C true t) λtf=>ob (X.s C b) λmb=>some (Af mi λsrc=>By tf src.g mb src.ds)))
  (Ii (Nat.beq t.ctorIdx 5) (λh=>Stmt.Assign.elim t (bq h) λts e p=>zNa (zMl T X C e ts) (T.xs X C (.Assign ts e p)))
  (T.xs X C t))))))))
noncomputable def zKj:List Stmt->Option (Mn Fl)
 |[]=>some (A8 .next)
 |t::r=>ob (stepS T X C t) λm=>ob (zKj r) λn=>some (Ag m n)
end
noncomputable def zLp (T:Tb):Nat->zCU
 |0=>⟨λ_ _=>none,λ_ _=>none,λ_ _=>none⟩
 |n+1=>⟨λC e=>zIt T (zLp T n) C e,λC e=>zIv T (zLp T n) C e,λC l=>zKj T (zLp T n) C l⟩
section
variable {G:Gd}{T:Tb}{X:zCU}{C:Cx}
theorem Gc(hX:Cm G X){es:List Expr}:∀{ms:Mn (List D)},Jh X C es=some ms->SA G C es ms:=by
 induction es with
 |nil=>intro ms h;exact Am (P:=SA G C []) h zJ5
 |cons e es ih=>intro ms h;exact C4 h λh1 h=>Au h λm h2 h=>Au h λms' h3 h=>Am (P:=SA G C (e::es)) h (zHH (hX.e _ _ _ h2) (ih h3) (D0 h1))
theorem zH6(hX:Cm G X):∀{ms:List (Mn D)},zEd X C es=some ms->Bs (λa m=>SE G C a m) es ms:=by
 induction es with
 |nil=>intro ms h;exact Am (P:=Bs _ []) h .nil
 |cons e es ih=>intro ms h;exact Au h λm h2 h=>Au h λms' h3 h=>Am (P:=Bs _ (e::es)) h (.cons (hX.e _ _ _ h2) (ih h3))
theorem zIa(hx:C.names.lookup x=some k)(h:zLu C b x k=some f):ST G C b (.Name x p) f:=by
 cases k with
 | «local» =>exact Au h λi hi h=>Am (P:=ST G C b (.Name x p)) h (zIZ (Ek hi) hx)
 |cell=>exact C4 h λhb h=>Au h λi hi h=>Am (P:=ST G C b (.Name x p)) h (by subst hb;exact zFo (Ek hi) hx)
 |_=>exact Bc h
theorem Lp(h:Iq e=some x):∃p,e=.Name x p:=by
 refine Cb h (λhb h=>?_) Bc
 obtain⟨y,p,rfl⟩:=Mb hb
 cases h;exact⟨p,rfl⟩
theorem zA1(h:zGB C b t=some f):ST G C b t f/\Cl t=true:=by
 refine Au h λx hx h1=>?_
 obtain⟨p,rfl⟩:=Lp hx;exact Au h1 λk hk h=>⟨zIa hk h,rfl⟩
theorem zHa:∀{f:List D->Bm->Option Bm},zD7 C b ts=some f->zLP G C b ts f/\ts.all Cl=true:=by
 induction ts with
 |nil=>intro f h;exact Am (P:=λf=>zLP G C b [] f/\_) h ⟨zHO,rfl⟩
 |cons t r ih=>
  intro f h;refine Au h λg h1 h=>Au h λk h2 h=>Am (P:=λf=>zLP G C b (t::r) f/\_) h ?_
  have i:=ih h2;have j:=zA1 (G:=G) h1;exact⟨zD9 j.1 i.1 (O2 j.2),by rw[List.all_cons,j.2,i.2];rfl⟩
theorem Um(env:Env)(h:ts.all Cl=true):(assignEach ts env).length=ts.length/\(assignEach ts env).findIdx? (·.1)=none:=by
 induction ts with
 |nil=>exact⟨rfl,rfl⟩
 |cons t r ih=>
  refine B9 h λh1 h2=>?_
  have i:=ih h2;rw[O2 h1];exact⟨lO2 Nat.succ i.1,by rw[List.findIdx?_cons,i.2];rfl⟩
theorem zEi(h:zJ1 C b t=some f):ST G C b t f:=by
 refine Cb h (λhb h=>?_) λh=>Cb h (λhb h=>?_) Bc
 ·obtain⟨ts,k,p,rfl⟩:=zAZ hb;exact Au h λg h1 h=>Am (P:=ST G C b (.Tuple ts k p)) h (let i:=zHa (G:=G) h1;zFj i.1 (λenv=>(Um env i.2).1) λenv=>(Um env i.2).2)
 ·obtain⟨x,p,rfl⟩:=Mb hb;exact(zA1 (show zGB C b (.Name x p)=some f from h)).1
theorem zF8(ok:C5 G T)(hd:(x==("__debug__":Str))=false)(hx:C.names.lookup x=some k)(h:zJN T C x k=some m):SE G C (.Name x pos) m:=by
 cases k with
 | «local» =>exact Au h λi hi h=>Am (P:=SE G C (.Name x pos)) h (zEf (Ek hi) hx hd)
 |cell=>exact C4 h λhn h=>Au h λi hi h=>Am (P:=SE G C (.Name x pos)) h (zAB (Ek hi) (.inl hx) hd (not_true hn))
 |free=>exact C4 h λhn h=>Au h λi hi h=>Am (P:=SE G C (.Name x pos)) h (zAB (Ek hi) (.inr hx) hd (not_true hn))
 |globalImplicit=>exact Au h λi hi h=>Am (P:=SE G C (.Name x pos)) h (zEm (ok.nums _ _ hi) hx hd)
 |_=>exact Bc h
theorem zGV(ok:C5 G T)(h:zJI T C x=some m):SE G C (.Name x pos) m:=
 C4 h λhd h=>Au h λk hk h=>zF8 ok (not_true hd) hk h
theorem Dp{α:Type}{l:List α}(h:l.isEmpty=true):l=[]:=by cases l<;>first|rfl|cases h
theorem zGY{e:Expr}{f:Str}{as:List Expr}(h:Yl e=some (f,as)):∃np pos,e=.Call (.Name f np) as [] pos:=by
 refine Au h λq hq h=>C4 h λhk h=>Au h λg hg h9=>?_
 obtain⟨p,e1⟩:=Tl hq;obtain⟨np,e⟩:=Lp hg
 cases h9;exact⟨np,p,by rw[e1,e,Dp hk]⟩
theorem Me{α:Type}{l:List α}{P:Prop}(h:(!l.isEmpty)=true)(k:∀a r,l=a::r->P):P:=by
 cases l with
 |nil=>cases h
 |cons a r=>exact k a r rfl
theorem zDz(ok:C5 G T)(hX:Cm G X){t e:Expr}{m:Mn Js}(h:zHv T X C t e=some m):∃tg,SI G C e tg m/\tg t:=by
 unfold zHv at h
 cases q:ob (Yl e) λp=>ob (T.ts.lookup p.1) λq=>some (p,q)with
 |none=>rw[q]at h;exact Au h λm' h1 h=>Am (P:=λm=>∃tg,SI G C e tg m/\tg t) h ⟨_,zJs (hX.e _ _ _ h1),trivial⟩
 |some r=>
  rw[q]at h;refine Au q λp hp q=>Au q λs hs q=>?_
  cases q;obtain⟨f,as⟩:=p;obtain⟨n,b,F⟩:=s;obtain⟨np,pos,rfl⟩:=zGY hp;refine C4 h λhc h=>B9 hc λhc h6=>B9 hc λhc h5=>B9 hc λhc h4=>B9 hc λh2 h3=>Au h λms h7 hz=>?_
  clear h;obtain⟨hb,tg,hF,ht⟩:=ok.ts _ _ _ _ hs;exact Me h6 λa r e=>by
   cases e;exact B9 h5 λs1 s2=>Am (P:=λm=>∃tg,SI G C _ tg m/\tg t) hz ⟨tg,zCe hb (Do h4) (not_true h3) hF (Gc hX h7) (D0 s1) (λenv=>Gq env s2),ht t h2⟩
theorem zK3(hX:Cm G X){ifs:List Expr}{m:Mn Bool}(h:zMo X C ifs=some m):Ua G C ifs m:=by
 cases ifs with
 |nil=>exact Am (P:=Ua G C []) h zIF
 |cons c r=>exact C4 h λhr h=>by rw[Dp hr];exact zGo (hX.b _ _ _ h)
inductive zLR (G:Gd)(C:Cx)(elt:Expr)(gs:List Comprehension)(scope:Scope)(m:Mn D):Prop
 |mk (t i:Expr) (f:List Expr) (tg:Expr->Prop) (mi:Mn Js) (tf:D->Bm->Option Bm) (mt:Mn Bool) (me:Mn D):gs=[⟨t,i,f,0⟩]->m=Af mi (C7 (Jy scope.names 0 C.tbl) tf mt me)->Q9 C scope (Jy scope.names 0 C.tbl)->SI G C i tg mi->tg t->ST G ⟨scope.names,C.tbl,C.lvl,C.code,C.qual⟩ false t tf->
  Ua G ⟨scope.names,C.tbl,C.lvl,C.code,C.qual⟩ f mt->SE G ⟨scope.names,C.tbl,C.lvl,C.code,C.qual⟩ elt me->(∀env x,foldedSetIterable i env x=pure x)->zLR G C elt gs scope m
theorem zD1(ok:C5 G T)(hX:Cm G X){elt:Expr}{gs:List Comprehension}{scope:Scope}{m:Mn D}(h:zNZ T X C elt gs scope=some m):zLR G C elt gs scope m:=by
 cases gs with
 |nil=>exact Bc h
 |cons g r=>
  obtain⟨t,i,f,a⟩:=g;refine C4 h λhc h=>B9 hc λhc h5=>B9 hc λhc h4=>B9 hc λh2 h3=>Au h λmi k1 h=>Au h λtf k2 h=>Au h λmt k3 h=>Au h λme k4 hz=>?_
  clear h;obtain⟨tg,hI,ht⟩:=zDz ok hX k1;have e0:a=0:=lN8.mp h3
  have er:=Dp h2;subst e0 er;exact Am (P:=zLR G C elt _ scope) hz ⟨t,i,f,tg,mi,tf,mt,me,rfl,rfl,zBF h4,hI,ht,zEi k2,zK3 hX k3,hX.e _ _ _ k4,Rz h5⟩
theorem zNI(hX:Cm G X):∀{m:Mn D},zOK X C op es=some m->zJJ G C op es m:=by
 induction es with
 |nil=>intro m h;cases h
 |cons e r ih=>
  intro m h
  cases r with
  |nil=>exact zGf (hX.e _ _ _ h)
  |cons e' r=>
   refine Au h λa h1 h=>Au h λb h2 h=>Am (P:=zJJ G C op _) h ?_
   cases op with
   |And=>exact zGc (hX.e _ _ _ h1) (ih h2)
   |Or=>exact zJn (hX.e _ _ _ h1) (ih h2)
theorem zNF(hX:Cm G X):∀{m:Mn Bool},zOR X C op es=some m->zJH G C op es m:=by
 induction es with
 |nil=>intro m h;cases h
 |cons e r ih=>
  intro m h
  cases r with
  |nil=>exact zMv (hX.b _ _ _ h)
  |cons e' r=>
   refine Au h λa h1 h=>Au h λb h2 h=>Am (P:=zJH G C op _) h ?_
   cases op with
   |And=>exact zHu (hX.b _ _ _ h1) (ih h2)
   |Or=>exact zLM (hX.b _ _ _ h1) (ih h2)
theorem zDE(hX:Cm G X)(h:zL4 X C o=some m):SO G C o m:=by
 cases o with
 |none=>exact Am (P:=SO G C none) h zGw
 |some e=>exact Au h λa h1 h=>Am (P:=SO G C (some e)) h (zIR (hX.e _ _ _ h1))
theorem zKK(ok:C5 G T)(hX:Cm G X){f:Str}{as:List Expr}{np pos:Pos}{m:Mn D}(h2:C.names.lookup f=some .globalImplicit)(h4:as.all Cl=true)(h:zMK T X C f as=some m):SE G C (.Call (.Name f np) as [] pos) m:=by
 cases as with
 |nil=>exact Bc h
 |cons a r=>cases r with
  |nil=>exact Bc h
  |cons t r=>
   refine C4 h λhc h=>B9 hc λhf hr=>Au h λt' ht h=>C4 h λhc h=>B9 hc λk1 k2=>Au h λtn h5 h=>Au h λm' h6 h=>Am (P:=SE G C _) h ?_
   obtain⟨tp,rfl⟩:=Lp ht;have e1:=lN8.mp hf;have e2:=Dp hr;subst e1 e2;obtain⟨g1,g2⟩:=ok.ty _ _ h5;exact B9 h4 λh3 _=>zKe g2 ok.isi h2 g1 (Do k1) (not_true k2) (hX.e _ _ _ h6) λenv=>by rw[D0 h3];rfl
theorem zDP(ok:C5 G T)(hX:Cm G X){f:Str}{as:List Expr}{np pos:Pos}{m:Mn D}(h1:(f==("__debug__":Str))=false)(h2:C.names.lookup f=some .globalImplicit)(h4:as.all Cl=true)(h5:(!as.isEmpty)=true)(h:zDZ T X C f as=some m):
  SE G C (.Call (.Name f np) as [] pos) m:=by
 refine Me h5 λa r e=>?_
 subst e;refine B9 h4 λs1 s2=>?_
 unfold zDZ at h
 cases q:T.fns.lookup f with
 |some p=>
  obtain⟨ad,n,F⟩:=p;rw[q]at h;refine C4 h λk2 h=>Au h λms h5 h=>Am (P:=SE G C _) h ?_
  apply yo;intro _ k0
  obtain⟨g1,g2,g3⟩:=ok.fns _ _ _ _ q;apply k0
  exact zHd g1 h2 h1 g2 g3 (lH3 k2) (Gc hX h5) (D0 s1)
 |none=>
  rw[q]at h
  cases q2:T.bf.lookup f with
  |some p=>
   apply yo;intro _ k0
   obtain⟨n,F⟩:=p;apply k0
   rw[q2]at h;refine Au h λms h5 h=>Am (P:=SE G C _) h ?_
   obtain⟨g1,g2⟩:=ok.bf _ _ _ q2;exact zFJ g1 h2 h1 g2 (Gc hX h5) (D0 s1) λenv=>Gq env s2
  |none=>
   rw[q2]at h
   cases q3:T.tv.lookup f with
   |some p=>
    obtain⟨n,F⟩:=p;rw[q3]at h;refine Au h λms h5 h=>Am (P:=SE G C _) h ?_
    obtain⟨g1,g2⟩:=ok.tv _ _ _ q3;exact zE6 g1 h2 h1 g2 (Gc hX h5) (D0 s1) λenv=>Gq env s2
   |none=>
    rw[q3]at h;exact zKK ok hX h2 h4 h
theorem zH1(ok:C5 G T)(hX:Cm G X)(h:zJQ T X C f as k=some m):
  SE G C (.Call (.Name f np) as [k] pos) m:=by
 obtain⟨ka,kv,kp⟩:=k;refine C4 h λhc h=>B9 hc λhc h5=>B9 hc λhc h4=>B9 hc λhc h3=>B9 hc λh1 h2=>?_
 have e1:=lN8.mp h1;have e2:ka=_:=lN8.mp h3
 have e4:as.length=1:=lN8.mp h4
 obtain⟨a,rfl⟩:=lB9.mp e4;subst e1 e2;refine B9 h5 λs1 _=>?_
 change zIj T X C _ [a] kv (Iq kv)=some m at h
 cases hg:Iq kv with
 |none=>
  rw[hg]at h;exact Au h λF hF h=>Au h λms h7 h=>Am (P:=SE G C _) h (ok.sl _ _ _ _ _ _ _ _ _ hX.e hF (Do h2) (Gc hX h7) λenv=>D0 s1 env)
 |some g=>
  rw[hg]at h;refine C4 h λhc h=>B9 hc λk1 k2=>Au h λp q h=>C4 h λk4 h=>Au h λF' hF h=>Au h λms h7 h=>Am (P:=SE G C _) h ?_
  obtain⟨gp,e⟩:=Lp hg;obtain⟨ad,n,F⟩:=p;subst e;obtain⟨g1,g2,g3⟩:=ok.fns _ _ _ _ q;exact ok.so _ _ hF C _ _ _ _ _ _ _ _ _ (Do h2) g1 (Do k1) (not_true k2) g3 (lH3 k4) (Gc hX h7) λenv=>D0 s1 env
theorem zHA(ok:C5 G T)(hX:Cm G X){f:Str}{as:List Expr}{ks:List Keyword}{np pos:Pos}{m:Mn D}(h:zIu T X C f as ks=some m):
  SE G C (.Call (.Name f np) as ks pos) m:=by
 cases ks with
 |nil=>exact C4 h λhc h=>B9 hc λhc h5=>B9 hc λhc h4=>B9 hc λh1 h2=>zDP ok hX (not_true h1) (Do h2) h4 h5 h
 |cons k r=>exact C4 h λhr h=>by rw[Dp hr];exact zH1 ok hX h
theorem zGs(ok:C5 G T)(hX:Cm G X){o:Expr}{name:Str}{as:List Expr}{apos pos:Pos}{m:Mn D}(h1:Rp o=true)(h2:as.all Cl=true)(h3:decide (as.length<30)=true)(h4:(apos.endLine==pos.line)=true)(h:zFG T X C o name as=some m):
  SE G C (.Call (.Attribute o name apos) as [] pos) m:=by
 unfold zFG at h
 cases q:T.sm.lookup name with
 |some p=>
  obtain⟨n,F⟩:=p;rw[q]at h;refine C4 h λhe h=>Au h λmo h5 h=>Au h λms h6 h=>Am (P:=SE G C _) h ?_
  refine Me he λa r e=>?_
  subst e;exact B9 h2 λs1 s2=>zF3 (ok.sm _ _ _ q) (hX.e _ _ _ h5) (Gc hX h6) (U3 h1) (D0 s1) (λenv=>Gq env s2) (λenv=>Yt env h2 h3) h4
 |none=>
  rw[q]at h;exact Au h λmo h5 h=>Au h λms h6 h=>ok.me C o as name mo ms m apos pos (hX.e _ _ _ h5) (zH6 hX h6) h h1 h2 h3 h4
theorem zHf(ok:C5 G T)(hX:Cm G X){l:Expr}{ops:List CmpOp}{rs:List Expr}{pos:Pos}{m:Mn D}(h:zMU T X C l ops rs=some m):SE G C (.Compare l ops rs pos) m:=by
 cases ops with
 |nil=>exact Bc h
 |cons op o'=>cases rs with
  |nil=>exact Bc h
  |cons r r'=>
   refine C4 h λhc h=>B9 hc λhc h3=>B9 hc λh1 h2=>Au h λf k1 h=>Au h λa k2 h=>Au h λb k3 h=>Am (P:=SE G C _) h ?_
   rw[Dp h1,Dp h2];exact zLd (ok.cmp _ _ k1) (hX.e _ _ _ k2) (hX.e _ _ _ k3) (not_true h3)
theorem zEL(h:Tj e=some p):∃q,e=.Slice p.1 p.2 none q:=by
 refine Cb h (λhb h=>?_) Bc
 obtain⟨lo,hi,st,q,rfl⟩:=zBX hb
 cases st with
 |none=>cases h;exact⟨q,rfl⟩
 |some _=>exact Bc h
theorem zKy(hX:Cm G X)(h:zLU X C v sl=some m):SE G C (.Subscript v sl pos) m:=by
 unfold zLU at h
 cases q:Tj sl with
 |some p=>
  simp only[q]at h;obtain⟨pp,rfl⟩:=zEL q;exact Au h λa k1 h=>Au h λlo k2 h=>Au h λhi k3 h=>Am (P:=SE G C _) h (zFp (hX.e _ _ _ k1) (zDE hX k2) (zDE hX k3))
 |none=>
  rw[q]at h;exact C4 h λhs h=>Au h λa k1 h=>Au h λb k2 h=>Am (P:=SE G C _) h (zLF (hX.e _ _ _ k1) (hX.e _ _ _ k2) (zGX hs))
theorem zMf(ok:C5 G T)(hX:Cm G X){f:Expr}{as:List Expr}{ks:List Keyword}{pos:Pos}{m:Mn D}(h:zOh T X C f as ks pos=some m):SE G C (.Call f as ks pos) m:=by
 refine Cb h (λhb h=>?_) λh=>Cb h (λhb h=>?_) Bc
 ·obtain⟨x,np,rfl⟩:=Mb hb;exact zHA ok hX h
 ·obtain⟨o,name,apos,rfl⟩:=zC7 hb;exact C4 h λhc h=>B9 hc λhc h5=>B9 hc λhc h4=>B9 hc λhc h3=>B9 hc λh1 h2=>by rw[Dp h1];exact zGs ok hX h2 h3 h4 h5 h
theorem zE0(h:zE2 c=some m):SE G C (.Constant c k pos) m:=by
 cases c with
 |int i=>exact Am (P:=SE G C _) h zJg
 |str x=>exact Am (P:=SE G C _) h zKE
 |bool b=>exact Am (P:=SE G C _) h zGa
 |none=>exact Am (P:=SE G C _) h zGk
 |_=>exact Bc h
theorem zMD(hX:Cm G X)(h:zOf X C e op=some m):SE G C (.UnaryOp op e pos) m:=by
 cases op with
 |Not=>exact Au h λa k h=>Am (P:=SE G C _) h (zKd (hX.e _ _ _ k))
 |USub=>exact Au h λa k h=>Am (P:=SE G C _) h (zJk (hX.e _ _ _ k))
 |_=>exact Bc h
theorem zD4(ok:C5 G T)(hX:Cm G X)(h:zIt T X C e=some m):SE G C e m:=by
 cases e with
 |Constant c k p=>exact zE0 h
 |Name x p=>exact zGV ok h
 |BinOp l op r p=>exact Au h λf h1 h=>Au h λa h2 h=>Au h λb h3 h=>Am (P:=SE G C _) h (zKg (ok.bin _ _ h1) (hX.e _ _ _ h2) (hX.e _ _ _ h3))
 |UnaryOp op e p=>exact zMD hX h
 |BoolOp op es p=>exact zBJ (zNI hX h)
 |Compare l ops rs p=>exact zHf ok hX h
 |Subscript v sl p=>exact zKy hX h
 |List es p=>exact Au h λms h1 h=>Am (P:=SE G C _) h (zIH (Gc hX h1))
 |Tuple es k p=>exact Au h λms h1 h=>Am (P:=SE G C _) h (zFc (Gc hX h1))
 |ListComp elt gs scope p=>
  obtain⟨t,i,f,tg,mi,tf,mt,me,rfl,rfl,k1,k2,k3,k4,k5,k6,k7⟩:=zD1 ok hX h;exact zAV k1 k2 k3 k4 k5 k6 k7
 |Call f as ks p=>
  exact zCp h (λq=>zMf ok hX q) λh=>ok.xe _ _ _ _ hX h
 |_=>exact ok.xe _ _ _ _ hX h
theorem zK4(hX:Cm G X)(h:zOa X C e pos op=some m):SB G C (.UnaryOp op e pos) m:=by
 cases op with
 |Not=>exact Au h λa k h=>Am (P:=SB G C _) h (zLW (hX.b _ _ _ k))
 |_=>exact Au h λa k h=>Am (P:=SB G C _) h (zDT (hX.e _ _ _ k) λ_ _=>rfl)
theorem zIQ(ok:C5 G T)(hX:Cm G X)(h:zM3 T X C l ops rs=some m):SB G C (.Compare l ops rs pos) m:=by
 cases ops with
 |nil=>exact Bc h
 |cons op o1=>cases rs with
  |nil=>exact Bc h
  |cons r r1=>cases o1 with
   |nil=>cases r1 with
    |nil=>exact C4 h λhm h=>Au h λf k1 h=>Au h λa k2 h=>Au h λb k3 h=>Am (P:=SB G C _) h (zK0 (ok.cmp _ _ k1) (hX.e _ _ _ k2) (hX.e _ _ _ k3) (not_true hm))
    |cons _ _=>exact Bc h
   |cons op' o2=>cases o2 with
    |cons _ _=>exact Bc h
    |nil=>cases r1 with
     |nil=>exact Bc h
     |cons q r2=>cases r2 with
      |cons _ _=>exact Bc h
      |nil=>exact C4 h λhm h=>Au h λf k1 h=>Au h λg k4 h=>Au h λa k2 h=>Au h λb k3 h=>Au h λc k5 h=>Am (P:=SB G C _) h (zI3 (ok.cmp _ _ k1) (ok.cmp _ _ k4) (hX.e _ _ _ k2) (hX.e _ _ _ k3) (hX.e _ _ _ k5) (not_true hm))
theorem zDV(ok:C5 G T)(hX:Cm G X)(h:zIv T X C e=some m):SB G C e m:=by
 refine Cb h (λhb h=>?_) λh=>Cb h (λhb h=>?_) λh=>Cb h (λhb h=>?_) λh=>C4 h λhp h=>Au h λa k h=>Am (P:=SB G C _) h (zDT (hX.e _ _ _ k) (zGH hp))
 ·obtain⟨op,e,p,rfl⟩:=zLH hb;exact zK4 hX h
 ·obtain⟨op,es,p,rfl⟩:=zDR hb;exact zIB (zNF hX h)
 ·obtain⟨l,ops,rs,p,rfl⟩:=zGd hb;exact zIQ ok hX h
theorem zJ7(ok:C5 G T)(hX:Cm G X)(hx:C.names.lookup x=some k)(h:zM5 T X C x np e k=some m):SS G C (.Assign [.Name x np] e pos) m:=by
 have v:∀{i},P6 x C.tbl=some i->(C.names.lookup x=some .local∨C.names.lookup x=some .cell)->(gd (Lu e) (ob (X.e C e) λm=>some (Af m (Ah i))))=some m->SS G C (.Assign [.Name x np] e pos) m:=λhi hx h=>C4 h λhc h=>Au h λa h2 h=>Am (P:=SS G C _) h (Rk (Ek hi) hx (hX.e _ _ _ h2) λF _=>Oy hc _ _ F.env)
 cases k with
 | «local» =>
  refine Au h λi hi h=>Cb h (λhb h=>?_) (v hi (.inl hx))
  obtain⟨elt,gs,scope,cpos,rfl⟩:=zFN hb;refine C4 h λhc h=>B9 hc λc1 c2=>Au h λa h2 h=>Am (P:=SS G C _) h ?_
  obtain⟨t,i',f,tg,mi,tf,mt,me,rfl,rfl,k1,k2,k3,k4,k5,k6,k7⟩:=zD1 ok hX h2;exact Ou (Ek hi) hx k1 k2 k3 k4 k5 k6 k7 (zBm c1 (not_true c2))
 |cell=>
  refine Au h λi hi h=>Cb h (λhb h=>?_) (v hi (.inr hx))
  obtain⟨elt,gs,scope,cpos,rfl⟩:=zFN hb;refine Au (show(ob (zNZ T X C elt gs scope) λm=>some (Af m (Ah i)))=some m from h) λa h2 h=>Am (P:=SS G C _) h ?_
  obtain⟨t,i',f,tg,mi,tf,mt,me,rfl,rfl,k1,k2,k3,k4,k5,k6,k7⟩:=zD1 ok hX h2;exact Rk (Ek hi) (.inr hx) (zAV k1 k2 k3 k4 k5 k6 k7) λF he=>Xe F.env (he.cell _ hx)
 |_=>exact Bc h
theorem zFz(ok:C5 G T)(hX:Cm G X){ts:List Expr}{e:Expr}{pos:Pos}{m:Mn Fl}(h:zMl T X C e ts=some m):SS G C (.Assign ts e pos) m:=by
 cases ts with
 |nil=>exact Bc h
 |cons t r=>
  refine C4 h λhr h=>?_
  rw[Dp hr];refine Cb h (λhb h=>?_) Bc
  obtain⟨x,np,rfl⟩:=Mb hb;exact Au h λk hk h=>zJ7 ok hX hk h
theorem zEk(ok:C5 G T)(hX:Cm G X){t:Stmt}{m:Mn Fl}(h:stepS T X C t=some m):SS G C t m:=by
 refine Cb h (λhb h=>?_) λh=>Cb h (λhb h=>?_) λh=>Cb h (λhb h=>?_) λh=>Cb h (λhb h=>?_) λh=>Cb h (λhb h=>?_) λh=>Cb h (λhb h=>?_) λh=>Cb h (λhb h=>?_) λh=>Cb h (λhb h=>?_) λh=>ok.xs _ _ _ _ hX h
 ·obtain⟨v,p,rfl⟩:=zHy hb;exact Au h λe he h=>Au h λa h2 h=>Am (P:=SS G C _) h (by subst he;exact zAu (hX.e _ _ _ h2))
 ·obtain⟨e,p,rfl⟩:=zKf hb;exact C4 h λhc h=>Au h λa h2 h=>Am (P:=SS G C _) h (zH0 (hX.e _ _ _ h2) λenv=>Oy hc _ _ env)
 ·obtain⟨p,rfl⟩:=zDq hb;exact Am (P:=SS G C _) h zGM
 ·obtain⟨p,rfl⟩:=zHQ hb;exact Am (P:=SS G C _) h zF6
 ·obtain⟨p,rfl⟩:=zEr hb;exact Am (P:=SS G C _) h We
 ·obtain⟨t,a,b,p,rfl⟩:=zJ0 hb;exact Au h λf h1 h=>Au h λa h2 h=>Au h λb h3 h=>Am (P:=SS G C _) h (zML (hX.b _ _ _ h1) (hX.s _ _ _ h2) (hX.s _ _ _ h3))
 ·obtain⟨t,i,b,o,p,rfl⟩:=zIJ hb;refine C4 h λhc h=>B9 hc λc2 c3=>Au h λf h1 h=>Au h λa h2 h=>Au h λb h3 h=>Am (P:=SS G C _) h ?_
  apply yo;intro _ k0
  obtain⟨tg,hI,ht⟩:=zDz ok hX h1;apply k0
  rw[Dp c3];exact zL3 hI ht (zEi h2) (hX.s _ _ _ h3) (Rz c2)
 ·obtain⟨ts,e,p,rfl⟩:=zA7 hb;exact zCp h (λq=>zFz ok hX q) λh=>ok.xs _ _ _ _ hX h
theorem zKo(ok:C5 G T)(hX:Cm G X):∀{m:Mn Fl},zKj T X C l=some m->Xj G C l m:=by
 induction l with
 |nil=>intro m h;exact Am (P:=Xj G C []) h zKX
 |cons t r ih=>intro m h;exact Au h λa h1 h=>Au h λb h2 h=>Am (P:=Xj G C (t::r)) h (zG8 (zEk ok hX h1) (ih h2))
theorem zLZ(ok:C5 G T)(n:Nat):Cm G (zLp T n):=by
 induction n with
 |zero=>exact⟨λ_ _ _ h=>(by cases h),λ_ _ _ h=>(by cases h),λ_ _ _ h=>by cases h⟩
 |succ n ih=>exact⟨λ_ _ _ h=>zD4 ok ih h,λ_ _ _ h=>zDV ok ih h,λ_ _ _ h=>zKo ok ih h⟩
theorem C5.add(ok:C5 G T)(h1:Fs G f (.ref a))(h2:∃o fd,G.h0.get? a=some o/\o.data=.func fd)(h3:SF G n a F):C5 G {T with fns:=(f,a,n,F)::T.fns} where
 fns g a' n' F' h:=by
  have h':List.lookup g ((f,a,n,F)::T.fns)=some (a',n',F'):=h
  rw[List.lookup_cons]at h'
  cases e:g==f with
  |true=>rw[e]at h';cases h';rw[lN8.mp e];exact⟨h1,h2,h3⟩
  |false=>rw[e]at h';exact ok.fns _ _ _ _ h'
 nums:=ok.nums
 bf:=ok.bf
 tv:=ok.tv
 ts:=ok.ts
 sm:=ok.sm
 ty:=ok.ty
 isi:=ok.isi
 bin:=ok.bin
 cmp:=ok.cmp
 me:=ok.me
 so:=ok.so
 sl:=ok.sl
 xe:=ok.xe
 xs:=ok.xs
end
theorem Hn{β:Type}{P:Str->β->Prop}:∀f v,([]:List (Str×β)).lookup f=some v->P f v:=λ_ _ h=>Bc h
theorem Bw{β:Type}{P:Str->β->Prop}{x:Str}{v:β}{l:List (Str×β)}(h:P x v)(t:∀f w,l.lookup f=some w->P f w):∀f w,((x,v)::l).lookup f=some w->P f w:=λf w e=>by
 rw[List.lookup_cons]at e
 cases q:f==x with
 |true=>rw[q]at e;cases e;rw[lN8.mp q];exact h
 |false=>rw[q]at e;exact t f w e
noncomputable abbrev zN0 (G:Gd)(f:Str)(p:String×(List D->Mn D)):Prop:=Dj G f (.builtin p.1)/\BF G p.1 p.2
noncomputable abbrev zOH (G:Gd)(f:Str)(p:String×(List D->Mn D)):Prop:=Dj G f (.type p.1)/\TF G p.1 p.2
noncomputable abbrev zN6 (G:Gd)(f:Str)(p:String×Bool×(List D->Mn Js)):Prop:=Dj G f (.type p.1)/\∃tg,zCN G p.1 tg p.2.2/\∀t,(!p.2.1||zAc t)=true->tg t
noncomputable abbrev zLy (G:Gd)(f:Str)(p:String×(Str->List D->Mn D)):Prop:=SM G f p.1 p.2
noncomputable abbrev zLi (G:Gd)(f:Str)(n:String):Prop:=Dj G f (.type n)/\zBp n
noncomputable abbrev zOE (G:Gd)(x:Str)(i:Int):Prop:=∃t,Fs G x (.int i t)
theorem Wa(h:(!true||zAc t)=true):Hx t:=zAZ h
noncomputable def zK8 (G:Gd)(me:Str->Mn D->List (Mn D)->Option (Mn D)):Prop:=
 ∀C o as name mo ms m apos pos,SE G C o mo->Bs (λa m=>SE G C a m) as ms->me name mo ms=some m->Rp o=true->as.all Cl=true->decide (as.length<30)=true->(apos.endLine==pos.line)=true->SE G C (.Call (.Attribute o name apos) as [] pos) m
noncomputable def zKl (G:Gd)(name:Str)(me:Mn D->List (Mn D)->Option (Mn D)):Prop:=
 ∀C o as mo ms m apos pos,SE G C o mo->Bs (λa m=>SE G C a m) as ms->me mo ms=some m->Rp o=true->as.all Cl=true->decide (as.length<30)=true->(apos.endLine==pos.line)=true->SE G C (.Call (.Attribute o name apos) as [] pos) m
noncomputable def zNQ:Str->Mn D->List (Mn D)->Option (Mn D):=λ_ _ _=>none
noncomputable def zDl (x:Str)(a:Mn D->List (Mn D)->Option (Mn D))(r:Str->Mn D->List (Mn D)->Option (Mn D)):Str->Mn D->List (Mn D)->Option (Mn D):=λname m ms=>match name==x with
 |true=>a m ms
 |false=>r name m ms
section
variable {G:Gd}
theorem zGg:zK8 G zNQ:=λ_ _ _ _ _ _ _ _ _ _ _ h=>Bc h
theorem U7(h:zKl G x a)(t:zK8 G r):zK8 G (zDl x a r):=λC o as name mo ms m apos pos h1 h2 h3=>by
 unfold zDl at h3
 cases q:name==x with
 |true=>rw[q]at h3;rw[lN8.mp q];exact h C o as mo ms m apos pos h1 h2 h3
 |false=>rw[q]at h3;exact t C o as name mo ms m apos pos h1 h2 h3
noncomputable def zFd (f:Nat->D->Mn D)(m:Mn D):List (Mn D)->Option (Mn D)
 |[]=>none
 |a::r=>gd r.isEmpty (some (Af m (Dh λk=>Af a (f k))))
noncomputable def zCz (m:Mn D)(as:List (Mn D)):Option (Mn D):=gd as.isEmpty (some (Af m (Dh Yk)))
theorem zF4{name:Str}{id:String}{f:Nat->D->Mn D}(L:zN8 G name id f):zKl G name (zFd f):=λC o as mo ms m apos pos h1 h2 h3 h4 h5 h6 h7=>by
 cases h2 with
 |nil=>exact Bc h3
 | @cons a ma as' ms' ha hr=>
  refine C4 h3 λhe h3=>Am (P:=SE G C _) h3 ?_
  cases hr with
  |nil=>exact B9 h5 λs1 _=>zKt L h1 ha (U3 h4) (D0 s1) (λenv=>Yt env h5 h6) h7
  |cons _ _=>cases he
theorem zLA:zKl G (Str.ofString "pop") zCz:=λC o as mo ms m apos pos h1 h2 h3 h4 h5 h6 h7=>by
 refine C4 h3 λhe h3=>Am (P:=SE G C _) h3 ?_
 cases h2 with
 |nil=>exact zJo h1 (U3 h4) (λenv=>Yt env h5 h6) h7
 |cons _ _=>cases he
end
noncomputable abbrev ix (i:Nat)(k:Int):Mn D:=Ad Aj (A6 i) (A8 (.int k))
section
open W
noncomputable def zJS (p:Arguments):Option Str:=gd (p.posonlyargs.isEmpty&&p.vararg.isNone&&p.kwonlyargs.isEmpty&&p.kw_defaults.isEmpty&&p.kwarg.isNone&&p.defaults.isEmpty) (match p.args with
 |[a]=>some a.arg
 |_=>none)
theorem zEa(h:zJS p=some x):∃a:Arg,p=⟨[],[a],none,[],[],none,[]⟩/\a.arg=x:=by
 obtain⟨p1,p2,p3,p4,p5,p6,p7⟩:=p;refine C4 h λhc h=>?_
 simp only[lH6,List.isEmpty_iff,Option.isNone_iff_eq_none]at hc;obtain⟨⟨⟨⟨⟨rfl,rfl⟩,rfl⟩,rfl⟩,rfl⟩,rfl⟩:=hc
 cases p2 with
 |nil=>cases h
 |cons a r=>cases r with
  |nil=>exact⟨a,rfl,lK2 h⟩
  |cons _ _=>cases h
noncomputable def zNH (c:Addr):Value->Bool
 |.ref a=>a==c
 |_=>false
noncomputable def zCj (scope:Scope)(x:Str):Bool:=Is scope.names&&(scope.names.all λp=>p.2 !=.cell)&&scope.kind== .function&&!scope.isCoroutine&&!scope.isGenerator&&scope.names.lookup x==some .local
noncomputable def zMn (x:Str):Prop:=∀nm q ann ps body scope cl pm c ctv v,bindArgs (kla_fn nm q ⟨[],[⟨x,ann,ps⟩],none,[],[],none,[]⟩ body scope cl pm c ctv) ⟨[v],[]⟩=pure [(x,v)]
noncomputable def zIl (x:Str)(c:Addr)(kt:Nat)(T:Addr)(X:Cx→Expr→Option (Mn D))(C:Cx)(e:Expr):Option (List D→Mn D):=Ii (Nat.beq e.ctorIdx 4) (λh=>Expr.Lambda.elim e (bq h) λp body scope pos=>ob (zJS p) λy=>gd (y==x&&zNH c C.code&&zCj scope x&&decide (2≤C.lvl)) (ob (X ⟨scope.names,[x],C.lvl - 2,.none,""⟩ body) λm=>
  some λds=>Af (zBl kt T pos.line pos.col (C.qual++"<lambda>")) λ_=>E4 (zF0 m) ds)) none
theorem zDj(hbi:zMn x)(LG:zDh G c T)(hs:Dj G (Str.ofString "sorted") (.builtin "sorted")):∀X C v F e ms sp pos kp,(∀C x m,X C x=some m→SE G C x m)→zIl x c kt T X C v=some F→C.names.lookup (Str.ofString "sorted")=some .globalImplicit→SA G C [e] ms→(∀env,starEach [e] env=[(false,eval e env)])→
  SE G C (.Call (.Name (Str.ofString "sorted") sp) [e] [⟨some (Str.ofString "key"),v,kp⟩] pos) (Af ms F):=by
 intro X C v F e ms sp pos kp hX h hn he hst;refine Cb h (λhb h=>?_) Bc
 obtain⟨p,body,scope,lp,rfl⟩:=zHN hb;refine Au h λy hx h=>C4 h λhc h=>Au h λm hm h=>Am (P:=λF=>SE G C _ (Af ms F)) h ?_
 apply yo;intro _ k0
 obtain⟨⟨y',ann,ps⟩,rfl,rfl⟩:=zEa hx;apply k0
 refine B9 hc λhc h4=>B9 hc λhc h2=>B9 hc λh0 h1=>?_
 obtain rfl:y'=x:=lN8.mp h0
 have hcd:C.code=.ref c:=by
  cases e:C.code with
  |ref b=>rw[e]at h1;rw[show b=c from lN8.mp h1]
  |_=>rw[e]at h1;cases h1
 simp only[zCj,lH6,lN8,lG1]at h2;apply yo;intro _ k0
 obtain⟨⟨⟨⟨⟨k1,k2⟩,k3⟩,k4⟩,k5⟩,k6⟩:=h2;apply k0
 refine Yw hs hn LG hcd rfl k1 (λy m z=>?_) (λ_=>rfl) k3 k4 k5 k6 (λ_ _ _ _=>hbi _ _ _ _ _ _ _ _ _ _ _) (hX _ _ _ hm) ?_ he hst
 ·have:=lH7.mp k2 y m
  rw[z]at this;simp at this
 ·have:=lH3 h4
  rw[Nat.sub_add_cancel this];exact lN4 _
end
noncomputable def zJK {α:Type}(o:Option PO)(f:List (List Int)->Re α):Re α:=match o with
 |some (.dict ks)=>f ks
 |_=>.bot
theorem Ul{P:Prop}{α:Type}{o:Option PO}{f:List (List Int)->Re α}{a:α}{st:St}(hb:zJK o f=.ok a st)(w:∀ks,o=some (.dict ks)->f ks=.ok a st->P):P:=by
 cases o with
 |none=>exact Bv hb
 |some o=>cases o<;>first|exact Bv hb|exact w _ rfl hb
noncomputable def zEA {α:Type}(k:Nat)(f:List (List Int)->Mn α):Mn α:=λst=>zJK st.sto[k]? λks=>f ks st
noncomputable def zKG (k:Nat):D->Mn Bool
 |.tup ds=>zEA k λks=>optB (Dz ds) λn=>A8 (ks.contains n)
 |.int i=>Ge k λds=>optB (Dz ds) λns=>A8 (ns.contains i)
 |_=>botM
noncomputable def zEM {α:Type}(f:Nat->Mn α):D->Mn α
 |.ref k=>f k
 |_=>botM
noncomputable def zIq (d e:D):Mn D:=zEM (λk=>Af (zKG k d) λb=>A8 (.bool b)) e
noncomputable def Pf (d e:D):Mn D:=zEM (λk=>Af (zKG k d) λb=>A8 (.bool (!b))) e
noncomputable def Qx (ks:List (List Int))(n:List Int):List (List Int):=if ks.contains n=true then ks else ks++[n]
noncomputable def zMb {α:Type}(k:Nat)(p:PO)(d:α):Mn α:=λst=>.ok d ⟨st.loc,st.sto.set k p⟩
noncomputable def zIs (k:Nat)(ds:List D):Mn Fl:=zEA k λks=>optB (Dz ds) λn=>if ks.length<=sizeLine then zMb k (.dict (Qx ks n)) .next else botM
noncomputable def zNd (k:Nat)(v:D):D->Mn Fl
 |.int i=>Ge k λds=>if 0<=i/\i<ds.length/\ds.length<=sizeLine then zKV k (ds.set i.toNat v) .next else botM
 |.tup ds=>zIs k ds
 |_=>botM
noncomputable def zJL (d e v:D):Mn Fl:=zEM (λk=>zNd k v e) d
noncomputable abbrev J1 (mv mo mi:Mn D):Mn Fl:=Af mv λv=>Af mo λd=>Af mi λe=>zJL d e v
noncomputable def Tw (p:PO):Mn D:=λst=>.ok (.ref st.sto.length) ⟨st.loc,st.sto++[p]⟩
noncomputable def zNl {α:Type}(f:List D->Mn α):D->Mn α
 |.tup ds=>f ds
 |_=>botM
noncomputable abbrev T7 (mk mv:Mn D):Mn D:=Af (Tw (.dict [])) λr=>Af mk λk=>Af mv λ_=>Af (zNl (λds=>zEM (λj=>zIs j ds) r) k) λ_=>A8 r
theorem Mf(xs:List (List Int×Addr×Value))(n:List Int):(atKey xs n).isSome=(xs.map (·.1)).contains n:=by
 induction xs with
 |nil=>rfl
 |cons x xs ih=>
  unfold atKey at ih ⊢;rw[List.find?_cons,lL4,List.contains_cons];by_cases h:x.1=n
  ·simp[h]
  ·have h':(n==x.1)=false:=by simpa usingλz=>h z.symm
   simp only[h,decide_false,h',lL3];exact ih
theorem W6(xs:List (List Int×Addr×Value))(n:List Int)(a:Addr)(v:Value):(storedH xs n a v).map (·.1)=Qx (xs.map (·.1)) n:=by
 unfold storedH Qx;rw[Mf];split
 ·rw[lM3];congr 1
  funext x
  show(putAt n v x).1=x.1
  unfold putAt;split<;>rfl
 ·rw[lJ5];rfl
theorem zB5:∀{ns:List Int},Dz ds=some ns->F8 ds=some (ns.map .int)/\PyData.canLayAll0 (ns.map .int)=true:=by
 induction ds with
 |nil=>intro ns e;cases(show some []=some ns from e);exact⟨rfl,rfl⟩
 |cons d ds ih=>
  intro ns e
  cases d with
  |int i=>
   obtain⟨m,e1,rfl⟩:=lC1.mp e;obtain⟨h1,h2⟩:=ih e1;refine⟨?_,h2⟩
   show(F8 ds).map (PyData.int i:: ·)=_
   rw[h1];rfl
  |_=>cases(show none=some ns from e)
section
variable {G:Gd}{C:Cx}{F:Fr G C}{A:Around}{P:List Addr}{s:Shared}{ρ:List Addr}{σ:C3}{st:St}
theorem Lw(e:Dz ds=some ns)(r:Ay G h ρ ds vs):Dc vs ns:=by
 obtain⟨xs,rfl,rfl⟩:=Eu r e;clear r
 induction xs generalizing ds with
 |nil=>exact .nil
 |cons x xs ih=>
  cases ds with
  |nil=>cases e
  |cons d ds=>
   cases d with
   |int i=>
    obtain⟨m,e1,e2⟩:=lC1.mp e
    cases e2;exact .cons ⟨_,rfl⟩ (ih e1)
   |_=>cases(show none=some _ from e)
theorem Sv{Z:Prop}{k:Nat}{a:Addr}{ks:List (List Int)}(I:Dg G s ρ σ)(e:ρ[k]? =some a)(q:σ[k]? =some (.dict ks))(w:∀xs,s.heap.DictOfH (Jt G) a xs->(a==sysModules)=false->xs.map (·.1)=ks->(∀x,x∈xs->x.2.1∉ρ/\N3 s.heap x.2.1 x.1)->Z):Z:=by
 obtain⟨xs,h1,h2,h3,h4⟩:=I.sto k a _ e q;exact w xs h1 h2 h3 h4
theorem At.dct{α β:Type}{R:Heap->List Addr->β->α->Prop}{t:Sem α}{k:Nat}{a:Addr}{f:List (List Int)->Mn β}(K:Ok F s ρ st)(e1:ρ[k]? =some a)
  (h:∀xs,st.sto[k]? =some (.dict (xs.map (·.1)))->s.heap.DictOfH (Jt G) a xs->(a==sysModules)=false->(∀x,x∈xs->x.2.1∉ρ/\N3 s.heap x.2.1 x.1)->At F P s ρ st R t (f (xs.map (·.1)))):At F P s ρ st R t (zEA k f):=
 λd st' Q E hm kk=>Ul (f:=λds=>f ds st) hm λks e hm=>Sv K.inv e1 e λxs h1 h2 h3 h4=>by
  subst h3;exact h xs e h1 h2 h4 d st' Q E hm kk
theorem zCA(hd:(d==sysModules)=false)(hm:s.heap.DictOfH (Jt G) d xs)(hfit:(xs.length:Int)<2 ^ 63)(h:Q (.int xs.length (s.toks+1)) {s with toks:=s.toks+1+1}):wpAny G.M A (call (.builtin "len") [.ref d]) Q E s:=by
 refine Calls.call_function_entry kind_len plain_len entry_len (args_len1 _) ?_
 unfold Builtin.«len»
 refine lN9 (m:=oneArg "len" _) (lO1 ?_)
 have hmt:MeetsIn G.prog G.w (Builtin.«dict.__len__» ⟨[.ref d],[]⟩) (λ_ R s=>∃xs,s.heap.DictOfH (Jt G) d xs/\R (.ok (.ret (.int xs.length s.toks))) {s with toks:=s.toks+1}):=
  .of_wp λA R s ⟨xs,hm,h⟩=>by
   obtain⟨o,es,ep,ho,hc,hdat,he,hi,hn⟩:=hm;show wpAny _ _ (dictSize d >>= _) _ _ s
   unfold dictSize;refine lN9 (lN9 (wpAny_dictEntries ho hdat (lO1 ?_)))
   show wpAny _ _ (Builtin.Dict.pendingCount d >>= _) _ _ s
   refine lN9 (wpAny_pendingCount_other hd ?_)
   refine wpAny_ret_mkInt ?_
   have:es.size=xs.length:=size_of_entries he
   rw[Nat.add_zero,this];exact h
 refine lN9 (m:=callSpecial? (.ref d) (Str.ofString "__len__")) (lB4 (name:=Str.ofString "__len__") hm.typeIs F.slot_dict_len
  (call_meetsIn F.slot_dict_len hm.typeIs F.entry_dict_len (F.args_dict_len_1 _) hmt ⟨xs,hm,?_⟩))
 show wpAny _ _ _ _ _ {s with toks:=s.toks+1}
 refine lN9 (lL8 (lO1 ?_))
 refine lN9 (wpAny_letGo ?_)
 show wpAny _ _ (if((xs.length:Nat):Int)<0 then _ else _) _ _ _
 rw[lO5 (by exactλZ=>Az [_] [Ae x0 (.n 0),Ac (.n 0) x0] rT Z (cast_nn _))]
 show wpAny _ _ (if((xs.length:Nat):Int)≥2 ^ 63 then _ else _) _ _ _
 rw[lO5 (by exactλZ=>Az [_] [Ac (.n 9223372036854775808) x0,Ae x0 (.n 9223372036854775808)] rT Z hfit)]
 exact lN9 (wpAny_mkInt (lO1 ⟨_,rfl,h⟩))
noncomputable def zIL (k:Nat):Option PO->Mn D
 |some (.dict ks)=>if ks.length<2 ^ 62 then A8 (.int ks.length)else botM
 |_=>zGQ (.ref k)
noncomputable def zMq:D->Mn D
 |.ref k=>λst=>zIL k st.sto[k]? st
 |d=>zGQ d
noncomputable def Cf:List D->Mn D:=arg1 zMq
theorem zGD:BF G "len" Cf:=BF.arg1 λC F s ρ st d v K r=>by
 have old:At F [] s ρ st (RV G) (call (.builtin "len") [v]) (zGQ d):=zLD C F s ρ st [d] [v] K ⟨v,[],rfl,r,rfl⟩
 cases d with
 |ref k=>
  intro e st' Q E hm;have hm:zIL k st.sto[k]? st=.ok e st':=hm
  cases q:st.sto[k]? with
  |none=>rw[q]at hm;exact old e st' Q E hm
  |some o=>
   rw[q]at hm
   cases o with
   |dict ks=>
    refine Ft hm λh1 hm kk=>?_
    cases hm;obtain⟨a,rfl,hk⟩:=r;refine Sv K.inv hk q λxs h2 h3 h4 _=>?_
    subst h4;rw[lq6]at h1;exact zCA h3 h2 (by exact Int.lt_of_lt_of_le (F1 h1) (by decide)) (kk _ _ ρ (K.tok _) Ev.refl (by rw[lq6];exact⟨_,rfl⟩))
   |_=>exact old e st' Q E hm
 |_=>exact old
theorem Lm(K:Ok F s ρ st):F.A.units+1<cLine:=by have:=K.room.units;have hl:cLine=9900:=rfl;exact Ck (Ae (.a x0 (.n 1)) x1) [Ac (.a x0 (.m 10 x2)) (.n 9000),Cz x1 (.n 9900),Qe 10 (.n 0) x2] rT this hl (lq5 _)
theorem zEW{k:Nat}{d:D}{v:Value}{a:Addr}(K:Ok F s ρ st)(hk:ρ[k]? =some a)(r:Cr G s.heap ρ d v):At F P s ρ st (λ_ _ b w=>w=Value.bool b) (compareOp .In v (.ref a)) (zKG k d):=by
 cases d with
 |tup ds=>
  obtain⟨q,vs,rfl,hna,ht,rr⟩:=r;refine At.dct K hk λxs _ hm hs _=>At.optB λn hn=>At.tok K λQ E kk=>?_
  exact wpAny_in_heap (knd:=Jt G) (tupleKind_room_in1 (Lm K)) (N3.is ⟨vs,ht,Lw hn rr⟩) hs hm (kk _ _ (by rw[Mf]))
 |int i=>
  obtain⟨t,rfl⟩:=r;refine At.lst K hk λds vs n hq hl rr=>At.optB λns hns=>At.same K λQ E kk=>?_
  obtain⟨h1,h2⟩:=zB5 hns;obtain⟨as,ra⟩:=H5 ds _ _ h1 rr;refine SeqAt.in_list_reads (.list hl rfl rfl ra) (.int i t) h2 rfl ?_ (kk _ ?_)
  ·have:=Lm K
   have e:PyData.depth (.int i)=0:=rfl
   rw[e,Nat.min_zero];exact this
  ·congr 1
   rw[List.any_map,List.contains_eq_any_beq];congr 1
   funext n
   show PyData.eqv (.int n) (.int i)=(i==n)
   simp only[PyData.eqv];rw[Bool.eq_iff_iff,lN8,lN8];exact eq_comm
 |_=>exact At.bot
theorem zEj(h:wpAny G.M A (compareOp .In x c) (λv s'=>∃b,v=.bool b/\Q (.bool (!b)) s') E s):wpAny G.M A (compareOp .NotIn x c) Q E s:=fun Γ p hΓ=>by
 have h1:=h Γ p hΓ;change Sem.wp _ Γ (contains c x >>= λb=>pure (Value.bool b)) _ _ _ _ at h1
 show Sem.wp _ Γ (contains c x >>= λb=>pure (Value.bool (!b))) _ _ _ _
 rw[Sem.wp_bind']at h1 ⊢;refine Sem.wp_mono _ Γ _ (λb p' s' q=>?_) (λ_ _ _ q=>q) _ _ h1
 rw[Sem.wp_pure']at q ⊢;obtain⟨b',e,q⟩:=q
 cases e;exact q
theorem zKP:Ed G .In zIq:=λC F s ρ st d1 d2 v1 v2 K r1 r2=>by
 cases d2 with
 |ref k=>
  obtain⟨a,rfl,hk⟩:=r2;intro d st' Q E hm kk;refine Bk hm λb st1 e1 e2=>?_
  cases e2;exact zEW (P:=[]) K hk r1 b _ Q E e1 λv s' ρ' K' x r=>by cases r;exact kk _ s' ρ' K' x rfl
 |_=>exact At.bot
theorem zBs:Ed G .NotIn Pf:=λC F s ρ st d1 d2 v1 v2 K r1 r2=>by
 cases d2 with
 |ref k=>
  obtain⟨a,rfl,hk⟩:=r2;intro d st' Q E hm kk;refine Bk hm λb st1 e1 e2=>?_
  cases e2;exact zEj (zEW (P:=[]) K hk r1 b _ _ E e1 λv s' ρ' K' x r=>⟨b,r,kk _ s' ρ' K' x rfl⟩)
 |_=>exact At.bot
theorem Ws{Z:Prop}(K:Ok F s ρ st)(hk:ρ[k]? =some d)(hs:(d==sysModules)=false)(r:∀x,x∈xs->x.2.1∉ρ/\N3 s.heap x.2.1 x.1)(kt:N3 s.heap q n)(hna:q∉ρ)(hm':h'.DictOfH (Jt G) d (storedH xs n q vv))(hs':Heap.SameBut d s.heap h')(w:Ok F {s with heap:=h',toks:=tk} ρ ⟨st.loc,st.sto.set k (.dict (Qx (xs.map (·.1)) n))⟩->Ev [] s.heap ρ h' ρ->Z):Z:=by
 obtain⟨I4,x4⟩:=K.inv.put (k:=k) (a:=d) (p:=.dict (Qx (xs.map (·.1)) n)) hk hs' (λS=>⟨_,hm',hs,W6 xs n q vv,λx mx=>by
  rcases mem_storedH mx with⟨y,my,z1,z2⟩|⟨z1,z2⟩
  ·rw[z1,z2];exact(r y my).2.mono S (r y my).1
  ·rw[z1,z2];exact kt.mono S hna⟩) tk
 exact w (K.step I4 (x4 [])) (x4 [])
theorem Z1{d e v:D}{ov iv vv:Value}(K:Ok F s ρ st)(rd:Cr G s.heap ρ d ov)(re:Cr G s.heap ρ e iv)(rv:Cr G s.heap ρ v vv):At F [] s ρ st (λ_ _ fl (_:Unit)=>fl=Fl.next) (setItem ov iv vv) (zJL d e v):=by
 cases d with
 |ref k=>
  obtain⟨a,rfl,hk⟩:=rd
  cases e with
  |int i=>
   obtain⟨t,rfl⟩:=re;refine At.lst K hk λds vs n _ ho rr=>At.ite λhl=>?_
   intro fl st' Q E hm kk
   cases hm;have hsz:=rr.size;have hsl:sizeLine<2 ^ 62:=by decide
   refine PySem.W.ki_setAt ho hl.1 (by exact zIX (Ae x0 (.n 9223372036854775808)) [Ae x0 x1,Ac x1 x2,Ae x2 (.n 4611686018427387904)] rT hl.2.1 (Cc hl.2.2) (F1 hsl)) (by exact Int.lt_of_lt_of_le hl.2.1 (Int.le_of_eq (Eq.symm (M9 hsz)))) ?_
   exact Pm (ds:=ds.set i.toNat v) (g:=λxs=>xs.setIfInBounds i.toNat vv) K hk ho (λS=>by
    have:=Ay.of_all2 ((Ay.all2 (Ay.mono S _ _ rr)).set (Cr.mono S _ _ rv) i.toNat)
    rw[Array.toList_setIfInBounds];exact this) λK2 x2 _=>kk _ _ ρ K2 x2 rfl
  |tup ds=>
   obtain⟨q,vs,rfl,hna,ht,rr⟩:=re;refine At.dct K hk λxs _ hm hs r=>At.optB λn hn=>At.ite λhl=>?_
   intro fl st' Q E hmm kk
   cases hmm;have kt:N3 s.heap q n:=⟨vs,ht,Lw hn rr⟩
   exact wpAny_setItem_heap (knd:=Jt G) (tupleKind_room_in1 (Lm K)) kt.is hm (λh' hm' hs'=>Ws K hk hs r kt hna hm' hs' λK2 x2=>kk _ _ ρ K2 x2 rfl) (by rw[lq6]at hl;exact hl)
  |_=>exact At.bot
 |_=>exact At.bot
theorem zJ8(hv:SE G C v mv)(ho:SE G C o mo)(hi:SE G C i mi)(hsw:∀env,swapsWith v (some (.Subscript o i p')) pos.line env=pure false):SS G C (.Assign [.Subscript o i p'] v pos) (J1 mv mo mi):=.mk <| λF s ρ st K W d st' Q E hm kk=>Bk hm λdv st1 e1 hm=>Bk hm λdd st2 e2 hm=>Bk hm λdi st3 e3 hm=>
 wpAny_Assign_Subscript (hv.run F s ρ st K dv st1 _ _ e1 λvv s1 ρ1 K1 x1 r1=>ho.run F s1 ρ1 st1 K1 dd st2 _ _ e2 λov s2 ρ2 K2 x2 r2=>hi.run F s2 ρ2 st2 K2 di st3 _ _ e3 λiv s3 ρ3 K3 x3 r3=>
  Z1 K3 (Cr.mono (x3.stb K2.inv .nil) _ _ r2) r3 (Cr.mono ((x2.trans x3).stb K1.inv .nil) _ _ r1) d st' _ _ hm λ_ s4 ρ4 K4 x4 r4=>by cases r4;exact kk _ s4 ρ4 K4 ((x1.trans x2).trans (x3.trans x4)).nil rfl) (hsw F.env)
theorem zJi:SS G C t botM:=.mk <| λF s ρ st K W=>At.bot
theorem Wk{Z:Prop}(hg:∃m,G.h0.Ns mainGlobals m)(K:Ok F s ρ st)(w:Ok F {s with heap:=s.heap.push {cls:=.type "dict",data:=.dict #[]}} (ρ++[s.heap.objs.size]) ⟨st.loc,st.sto++[.dict []]⟩→Ev [] s.heap ρ (s.heap.push {cls:=.type "dict",data:=.dict #[]}) (ρ++[s.heap.objs.size])→(ρ++[s.heap.objs.size])[st.sto.length]? =some s.heap.objs.size→Z):Z:=by
 have hbig:(s.heap.objs.size==sysModules)=false:=by
  obtain⟨m,o,es,ep,ho,_⟩:=hg;have this:3<s.heap.objs.size:=lM0 (K.inv.base _ _ ho)
  simp only[beq_eq_false_iff_ne];intro z;rw[z]at this;exact absurd this (by decide)
 obtain⟨I,x⟩:=K.inv.alloc (o:={cls:=.type "dict",data:=.dict #[]}) (p:=.dict []) (by simp) rfl (λS=>⟨[],⟨_,_,_,lE1 _ rfl,⟨rfl,rfl,rfl⟩,rfl,rfl,λx m=>(nomatch m),List.nodup_nil⟩,hbig,rfl,λx m=>nomatch m⟩) s.toks
 exact w (K.step I (x [])) (x []) (by rw[←K.inv.len];simp)
theorem zDU(hg:∃m,G.h0.Ns mainGlobals m):SE G C (.Dict [] [] pos) (Tw (.dict [])):=.mk <| λF s ρ st K d st' Q E hm kk=>by
 cases hm;exact wpAny_Dict_empty (Wk hg K λK2 x2 e=>kk _ _ _ K2 x2 ⟨_,rfl,e⟩)
theorem zFO(k v:Expr)(pos:Pos)(env:Env):eval (.Dict [some k] [v] pos) env=(standAt pos >>= λ_=>(subDict [(eval k env,eval v env >>= λx=>standAt pos >>= λ_=>pure x)] >>= λd=>pure (.ref d))):=by
 rw[arm_eval_Dict,←dictDisplay_pairs _ (by simp) (by simp)];rfl
theorem sub1(h:wpAny G.M A (evalPairs [(k,v)]) (λvs s1=>wpAny G.M A (forIn vs PUnit.unit λ(x:Value×Value) (_:PUnit)=>(do dictSet s.heap.objs.size x.1 x.2;pure (ForInStep.yield PUnit.unit):Sem (ForInStep PUnit))) (λ_ s2=>Q s.heap.objs.size s2) E s1) E {s with heap:=s.heap.push {cls:=.type "dict",data:=.dict #[]}}):
  wpAny G.M A (subDict [(k,v)]) Q E s:=by
 unfold subDict;refine lN9 (wpAny_alloc (lN9 (lL8 ?_)))
 rw[lO6 (by simp)];exact lN9 (lO0 h (λvs s1 q=>lL8 (lN9 (lO0 q (λ_ s2 q=>lO1 (lO1 q)) λ_ _ e=>e))) λ_ _ e=>e)
theorem zCa{k v:Expr}{mk mv:Mn D}{pos:Pos}(hg:∃m,G.h0.Ns mainGlobals m)(hk:SE G C k mk)(hv:SE G C v mv):SE G C (.Dict [some k] [v] pos) (T7 mk mv):=.mk <| λF s ρ st K d st' Q E hm kk=>Bk hm λr st0 e0 hm=>Bk hm λdk st1 e1 hm=>Bk hm λdv st2 e2 hm=>Bk hm λfl st3 e3 e4=>by
 cases e0
 cases e4;refine zOM (zFO k v pos F.env) (lN9 (lL9 (lN9 (sub1 ?_))))
 refine Wk hg K λK0 x0 ea=>?_
 refine evalPairs_cons (hk.run F _ _ _ K0 dk st1 _ _ e1 λkv s1 ρ1 K1 x1 r1=>lN9 (hv.run F s1 ρ1 st1 K1 dv st2 _ _ e2 λvv s2 ρ2 K2 x2 r2=>lN9 (lL9 (lO1 (evalPairs_nil ?_)))))
 rw[lJ3]
 cases dk with
 |tup ds=>
  obtain⟨q,vs,rfl,hna,ht,rr⟩:=Cr.mono (x2.stb K1.inv .nil) _ _ r1;have hkk:=x2.pre _ _ (x1.pre _ _ ea);refine Ul (f:=λks=>(optB (Dz ds) λn=>if ks.length<=sizeLine then zMb st.sto.length (.dict (Qx ks n)) Fl.next else botM) st2) e3 λks eks e3=>Ig e3 λn hn e3=>Ft e3 λhl e3=>Sv K2.inv hkk eks λxs hdd hs hx r=>?_
  cases e3;subst hx;have kt:N3 s2.heap q n:=⟨vs,ht,Lw hn rr⟩
  refine lN9 (lN9 (wpAny_dictSet_heap (knd:=Jt G) ?_ kt.is hdd (λh' hm' hs'=>Ws (tk:=s2.toks+(Jt G).draws n) K2 hkk hs r kt hna hm' hs' λK3 x3=>?_) (by rw[lq6]at hl;exact hl)))
  ·have:=Lm K
   show F.A.units<cLine
   lia
  ·exact lO1 (lO1 (lO1 (kk _ _ ρ2 K3 ((x0.trans x1).trans (x2.trans x3)) ⟨_,rfl,hkk⟩)))
 |_=>exact Bv e3
theorem zLc(h1:Xj G C body m):SS G C (.Try body (h::hs) [] [] pos) m:=.mk <| λF s ρ st K W fl st' Q E hm kk=>wpAny_Try_except (h1.run F s ρ st K W fl st' _ _ hm λf s1 ρ1 K1 x1 r1=>by
 cases fl with
 |next=>cases(show f=.next from r1);exact wpAny_execs_nil (kk _ s1 ρ1 K1 x1 rfl)
 |brk=>cases(show f=.brk from r1);exact kk _ s1 ρ1 K1 x1 rfl
 |cont=>cases(show f=.cont from r1);exact kk _ s1 ρ1 K1 x1 rfl
 |ret d=>obtain⟨v,rfl,r⟩:=r1;exact kk _ s1 ρ1 K1 x1 ⟨v,rfl,r⟩)
noncomputable def U4 (c:Mn Bool)(b:Mn Fl):Nat->Mn Fl
 |0=>botM
 |n+1=>Af c λt=>bif t then Af b (zMV (U4 c b n))else A8 .next
noncomputable def Gn (c:Mn Bool)(b:Mn Fl):Mn Fl:=U4 c b 1000000
inductive zPB (F:Fr G C)(hs:Heap)(ρs:List Addr)(c:Mn Bool)(b:Mn Fl)(fl:Fl)(st':St)(n:Nat)(s':Shared):Prop
 |mk (ρ':List Addr) (st1:St) (K:Ok F s' ρ' st1) (x:Ev F.P hs ρs s'.heap ρ') (e:U4 c b n st1=.ok fl st')
theorem zER(hc:SB G C test mc)(hB:Xj G C body mb):SS G C (.While test body [] pos) (Gn mc mb):=.mk <| λF s ρ st K W fl st' Q E hm kk=>by
 refine wpAny_While (codeAny_whileLoop (zPB F s.heap ρ mc mb fl st') ?_ 1000000 ⟨ρ,st,K,Ev.refl,hm⟩)
 rintro n s1 ⟨ρ1,st1,K1,x1,e⟩
 cases n with
 |zero=>exact Bv e
 |succ n=>
  refine Bk e λt st2 e1 e2=>hc.run F s1 ρ1 st1 K1 t st2 _ _ e1 λv s2 ρ2 K2 x2 rr=>?_
  cases(show t=v from rr)
  cases t with
  |false=>
   cases e2;exact wpAny_execs_nil (kk _ s2 ρ2 K2 (x1.trans x2.nil) rfl)
  |true=>
   refine Bk e2 λfl1 st3 e3 e4=>hB.run F s2 ρ2 st2 K2 W fl1 st3 _ _ e3 λf s3 ρ3 K3 x3 r3=>?_
   have xx:=(x1.trans x2.nil).trans x3
   cases fl1 with
   |next=>cases(show f=.next from r3);exact⟨n,lI5 n,ρ3,st3,K3,xx,e4⟩
   |cont=>cases(show f=.cont from r3);exact⟨n,lI5 n,ρ3,st3,K3,xx,e4⟩
   |brk=>cases(show f=.brk from r3);cases e4;exact kk _ s3 ρ3 K3 xx rfl
   |ret d=>obtain⟨v,rfl,r3⟩:=r3;cases e4;exact kk _ s3 ρ3 K3 xx ⟨v,rfl,r3⟩
noncomputable def zD5 (X:zCU)(C:Cx)(e:Expr):Option (Mn D):=Ii (Nat.beq e.ctorIdx 6) (λh=>Expr.Dict.elim e (bq h) λks vs _=>match ks with
  |[]=>gd vs.isEmpty (some (Tw (.dict [])))
  |k::kr=>ob k λk=>ob vs.head? λv=>gd (kr.isEmpty&&vs.length==1) (ob (X.e C k) λmk=>ob (X.e C v) λmv=>some (T7 mk mv)))
  (none)
theorem zB1(hg:∃m,G.h0.Ns mainGlobals m):∀X C e m,Cm G X->zD5 X C e=some m->SE G C e m:=λX C e m hX h=>by
 refine Cb h (λhb h=>?_) Bc
 obtain⟨ks,vs,p,rfl⟩:=zFM hb
 cases ks with
 |nil=>exact C4 h λh1 h=>Am (P:=SE G C _) h (by rw[Dp h1];exact zDU hg)
 |cons k kr=>
  refine Au h λk' e1 h=>Au h λv e2 h=>C4 h λhc h=>B9 hc λh1 h2=>Au h λmk k1 h=>Au h λmv k2 h=>Am (P:=SE G C _) h ?_
  obtain⟨v',rfl⟩:=lB9.mp (lN8.mp h2);obtain rfl:v'=v:=lK2 e2
  rw[e1,Dp h1];exact zCa hg (hX.e _ _ _ k1) (hX.e _ _ _ k2)
noncomputable def zMm (X:zCU)(C:Cx)(v e:Expr):Option (Mn Fl):=Ii (Nat.beq e.ctorIdx 21) (λh=>Expr.Subscript.elim e (bq h) λo i _=>gd (Lu v) (ob (X.e C v) λmv=>ob (X.e C o) λmo=>ob (X.e C i) λmi=>some (J1 mv mo mi)))
  (none)
noncomputable def zIx (X:zCU)(C:Cx)(t:Stmt):Option (Mn Fl):=Ii (Nat.beq t.ctorIdx 16) (λh=>Stmt.Raise.elim t (bq h) λ_ _ _=>some botM)
  (Ii (Nat.beq t.ctorIdx 5) (λh=>Stmt.Assign.elim t (bq h) λts v _=>gd (ts.length==1) (ob ts.head? (zMm X C v)))
  (Ii (Nat.beq t.ctorIdx 11) (λh=>Stmt.While.elim t (bq h) λt b o _=>gd o.isEmpty (ob (X.b C t) λmc=>ob (X.s C b) λmb=>some (Gn mc mb)))
  (Ii (Nat.beq t.ctorIdx 17) (λh=>Stmt.Try.elim t (bq h) λb hs o f _=>gd (!hs.isEmpty&&o.isEmpty&&f.isEmpty) (X.s C b))
  (none))))
theorem zFX:∀X C t m,Cm G X->zIx X C t=some m->SS G C t m:=λX C t m hX h=>by
 refine Cb h (λhb h=>?_) λh=>Cb h (λhb h=>?_) λh=>Cb h (λhb h=>?_) λh=>Cb h (λhb h=>?_) Bc
 ·obtain⟨a,b,p,rfl⟩:=zAr hb;exact Am (P:=SS G C _) h zJi
 ·obtain⟨ts,v,p,rfl⟩:=zA7 hb;refine C4 h λhc h=>Au h λt ht h=>Cb h (λhs h=>?_) Bc
  obtain⟨t',rfl⟩:=lB9.mp (lN8.mp hc);obtain rfl:t'=t:=lK2 ht
  obtain⟨o,i,p',rfl⟩:=zG4 hs;exact C4 h λhn h=>Au h λmv h1 h=>Au h λmo h2 h=>Au h λmi h3 h=>Am (P:=SS G C _) h (zJ8 (hX.e _ _ _ h1) (hX.e _ _ _ h2) (hX.e _ _ _ h3) λenv=>Oy hn _ _ env)
 ·obtain⟨t,b,o,p,rfl⟩:=zLN hb;refine C4 h λh1 h=>Au h λmc k1 h=>Au h λmb k2 h=>Am (P:=SS G C _) h ?_
  rw[Dp h1];exact zER (hX.b _ _ _ k1) (hX.s _ _ _ k2)
 ·obtain⟨b,hs,o,f,p,rfl⟩:=zH7 hb;refine C4 h λhc h=>B9 hc λhc h2=>B9 hc λh0 h1=>?_
  rw[Dp h1,Dp h2];exact Me h0 λa r e=>by rw[e];exact zLc (hX.s _ _ _ h)
noncomputable def Q2 (k:Nat):D->Mn D
 |.int x=>Ge k λds=>optB (Dz ds) λns=>if ns.contains x=true/\ns.length<4294967296 then A8 (.int (ns.idxOf x:Nat))else botM
 |_=>botM
theorem zHF{xs:List (Int×Tok)}:IntsAre (xs.map λp=>Value.int p.1 p.2) (xs.map (·.1)):=by
 induction xs with
 |nil=>exact .nil
 |cons p r ih=>exact .cons p.1 p.2 ih
theorem zEJ{a:Addr}{n:Nat}{xs:List (Int×Tok)}{vs:Array Value}{x:Int}{t:Tok}{Q:Value->Shared->Prop}{E:Value->Shared->Prop}(hl:s.heap.get? a=some (E5 vs n))(ev:vs.toList=xs.map λp=>Value.int p.1 p.2)
  (hm:x∈xs.map (·.1)) (hz:(xs.map (·.1)).length<4294967296) (h:Q (.int ((xs.map (·.1)).idxOf x:Nat) s.toks) {s with toks:=s.toks+1}):wpAny G.M A (call (.builtin "list.index") [.ref a,.int x t]) Q E s:=by
 have ev':vs=(xs.map λp=>Value.int p.1 p.2).toArray:=by rw[←ev]
 subst ev';have hi:=zHF (xs:=xs);have hj:(xs.map (·.1)).idxOf x<(xs.map (·.1)).length:=List.idxOf_lt_length_iff.mpr hm
 have hlen:(xs.map λp=>Value.int p.1 p.2).length=(xs.map (·.1)).length:=by simp
 refine call_meets PySem.F.slot_list_index ⟨_,hl,rfl⟩ PySem.F.entry_list_index (PySem.F.args_list_index_2 _ _)
  (PySem.SeqAt.list_indexAt a _ n none #[] (.int x t) (isInt x) ((xs.map (·.1)).idxOf x) (by simpa using hj) (by exact Vt (Ae x0 (.s (.n 9223372036854775808) (.n 1))) [Ae x1 (.n 4294967296),Ae x0 x1] rT (F1 hz) (F1 hj)) ?_ ?_) ⟨hl,λy hy=>(eq_isInt x t hi y (by simpa using hy)).at _ _,h⟩
 ·show isInt x (xs.map λp=>Value.int p.1 p.2)[(xs.map (·.1)).idxOf x]=true
  rw[isInt_at x hi _ (by rw[hlen];exact hj) hj]
  simpa using List.getElem_idxOf hj
 ·intro j hjs hlt;show isInt x (xs.map λp=>Value.int p.1 p.2)[j]=false
  rw[isInt_at x hi j (by simpa using hjs) (lM9 hlt hj)];exact ne_of_lt_idxOf hlt _
theorem zEg:zN8 G (Str.ofString "index") "list.index" Q2 where
 slot:=PySem.F.slot_list_index
 ty:=PySem.F.type_list_index
 run C F x pos a k dx d st st' Q E s0 h hm:=by
  cases dx with
  |int i=>
   refine Fk hm λds hds hm=>Ig hm λns hns hm=>Ft hm λhc hm=>?_
   cases hm;refine lB5 rfl (lD2 (lE7 (lO0 h (λv s1 q=>?_) λ_ _ e=>e)))
   obtain⟨ρ1,K1,hk,rx,z⟩:=q;obtain⟨t,rfl⟩:=rx;refine Gb K1.inv hk hds λvs m how rr=>?_
   obtain⟨xs,hvs,rfl⟩:=Eu rr hns;exact Calls.spliced_nil (zEJ how hvs (by simpa using hc.1) hc.2 (z _ _ ρ1 (K1.tok _) Ev.refl ⟨_,rfl⟩))
  |_=>exact Bv hm
end
section
open W
theorem zAy(hT:TabsAt [(cd,T)] s₁.heap)(hF:SF ⟨prog,w,ghostOf s₁.heap [(cd,T)],s₁.os,s₁.gens⟩ n a F)(hn:n<=500)(hfa:fa=a)(hL:s₁.heap.IsList l vs.toArray)(hI:IntsAre vs ns)(hg:s₁.gens= #[])(hc1:∀cls,c.raises args cls=false)(hc2:c.post args (.bool true) args=true)(hp:∃σ' k,F [.scr ns] ⟨Br,[.ctab T ll cc q none]⟩=.ok (.bool true) ⟨Br,σ'⟩/\σ'[0]? =some (.ctab T ll cc q k)):
  wpAny (model prog w) callerA (call (.ref fa) [.ref l]) (λv s'=>GoodWG c cl mean args s₁ (.ok (.ret v)) s') (λe s'=>GoodWG c cl mean args s₁ (.error e) s') s₁:=by
 subst hfa;apply yo;intro _ k0
 obtain⟨σ',k,hp,hk⟩:=hp;apply k0
 have hi:Dc vs.toArray.toList ns:=by
  simp only[List.toList_toArray];clear hL hp
  induction hI with
  |nil=>exact .nil
  |cons n t _ ih=>exact .cons ⟨t,rfl⟩ ih
 have hT1:=hT (cd,T) (.head _);have hne:∀b o,b≠T->s₁.heap.get? b=some o->(ghostOf s₁.heap [(cd,T)]).get? b=some o:=λb o n e=>ghost_ne e (λm=>n (lq0 m))
 have I:Dg ⟨prog,w,ghostOf s₁.heap [(cd,T)],s₁.os,s₁.gens⟩ s₁ [T] [.ctab T ll cc q none]:=⟨λb o e=>of_hideAll _ e,λb m=>(lq0 m)▸hideAll_none _ (.head _),by simp,rfl,(λk a o e1 e2=>by
  cases k with
  |zero=>cases e1;cases e2;exact⟨rfl,hT1.2⟩
  |succ k=>cases e1),rfl,rfl⟩
 refine hF callerA s₁ [T] ⟨Br,[.ctab T ll cc q none]⟩ [.scr ns] [.ref l] _ _ _ _ ⟨rfl,?_,?_⟩ I ?_ hp λv s' ρ' _ I' x r=>?_
 ·show 1+claimMargin+n<=900
  have:claimMargin<=300:=by decide
  lia
 ·show 4+10*n<=9000
  lia
 ·exact⟨_,_,rfl,⟨l,vs.toArray,rfl,ghost_list hT hL,hi⟩,rfl⟩
 ·cases(show v=.bool true from r)
  have hρ:ρ'[0]? =some T:=x.pre 0 T rfl
  obtain⟨ps,hP⟩:∃ps,s'.heap.get? T=some (tabObj ps):=by
   obtain⟨_,h⟩:=I'.sto 0 T _ hρ hk
   cases k with
   |none=>exact⟨_,h⟩
   |some k=>obtain⟨c',_,h⟩:=h;exact⟨_,h⟩
  refine⟨.inl ⟨_,_,_,rfl,hc1,.bool true,hc2,λ_=>⟨List.nodup_nil,λ_ m=>nomatch m⟩⟩,⟨λb o e=>?_,λb o e=>?_⟩,I'.os,.of_eq (I'.gens.trans hg)⟩
  ·by_cases hb:b=T
   ·subst hb;have e2:=hT1.2;rw[show s₁.heap.get? b=some o from e]at e2
    cases e2;exact .inr (.inl ⟨(hT1.1.tab hT1.2).isCodeTable,rfl,#[],ps,rfl,by rw[Array.empty_append];exact hP⟩)
   ·exact .inl (I'.base b o (hne b o hb e))
  ·by_cases hb:b=T
   ·subst hb;exact⟨_,hP⟩
   ·exact⟨o,I'.base b o (hne b o hb e)⟩
theorem zHw{prog:Program}{w:World}{s₁:Shared}{cd T:Addr}{p:Program}{loose:List Str}{mean:ExcName->Option Value}{mg mb:Str->Option Value}{os:OsState}{gens:Array GenState}(hT:TabsAt [(cd,T)] s₁.heap)(Tp:Top p loose mean mg mb s₁.heap):zDh ⟨prog,w,ghostOf s₁.heap [(cd,T)],os,gens⟩ cd T:=by
 have Tg:=ghost_top hT Tp;obtain⟨bm,ob,b1,b2,b3,b4,b5,b6⟩:=Tg.bmain;exact⟨(ghost_code hT).1,⟨mg,bm,ob,Tg.g,b1,b2,b3,b4,b5,b6⟩,Tg.nolimit⟩
structure zDu (G:Gd)(K:Frag)(c T:Addr):Prop where
 lay:zFB G K
 lam:zDh G c T
end
structure Qs (b:Bool)(t:SetTable):Prop where
 ris:t.place.toList.Pairwise (· < ·)
 dum:t.dummies= #[]
 led:t.led=b
theorem V9{l:List Nat}(h:l.Pairwise (· < ·)){i k x y:Nat}(e1:l[i]? =some x)(e2:l[k]? =some y)(hik:i<k):x<y:=by
 obtain⟨h1,rfl⟩:=lq2 e1;obtain⟨h2,rfl⟩:=lq2 e2;exact lA7.mp h i k h1 h2 hik
structure Zg (l:List Nat)(j m:Nat):Prop where
 le:m<=l.length
 lo:∀i y,l[i]? =some y->i<m->y<j
 hi:∀i y,l[i]? =some y->m<=i->j<=y
theorem Qf{xs:Array Nat}{j:Nat}(h:xs.toList.Pairwise (· < ·)):∀(f lo hi:Nat),hi<=xs.toList.length->hi - lo<=f->lo<=hi->(∀i y,xs.toList[i]? =some y->i<lo->y<j)->(∀i y,xs.toList[i]? =some y->hi<=i->j<=y)->Zg xs.toList j (SetTable.below.go xs j f lo hi)
 |0,lo,hi,h1,h2,h3,a,b=>⟨lM7 h3 h1,a,λi y e q=>b i y e (lM7 (by exact Ck (Ac x0 x1) [Ac x2 (.n 0),Ac x0 (.a x2 x1)] rT h2 (Ao _ _)) (show lo<=i from q))⟩
 |f+1,lo,hi,h1,h2,h3,a,b=>by
  show Zg _ _ (if lo<hi then(if xs.getD ((lo+hi) / 2) j<j then SetTable.below.go xs j f ((lo+hi) / 2+1) hi else SetTable.below.go xs j f lo ((lo+hi) / 2))else lo)
  by_cases hl:lo<hi
  ·rw[lO6 hl];have hm:(lo+hi) / 2<xs.toList.length:=by exact Cd (Zx 2 x1 x0) [Qe 2 x2 x0,Ae x3 x2,Ac (.m 2 x1) (.a x3 x2)] rT h1 hl (N4 _ _)
   have em:xs.toList[(lo+hi) / 2]? =some xs.toList[(lo+hi) / 2]:=lA9 hm
   have eg:xs.getD ((lo+hi) / 2) j=xs.toList[(lo+hi) / 2]:=by
    rw[Array.getD_eq_getD_getElem?,←lC2,em];rfl
   rw[eg];by_cases hc:xs.toList[(lo+hi) / 2]<j
   ·rw[lO6 hc];refine Qf h f _ hi h1 (by exact X6 λZ=>An [_,_,_,_,_,_] [Zx 2 x0 x1,Ac x2 (.a x0 (.n 1)),Ac (.n 0) x0,Ac x3 (.a x2 x4),Ae (.a x4 x3) (.a (.m 2 x5) (.n 2)),zNc 2 (.a x1 (.a x5 (.n 1))) x3] rT Z h2 (lq5 _) (Ao _ _) (Sy _ (Nat.succ_pos _)) (Aq (Ck (Qe 2 (.a x1 (.n 1)) x0) [Ae x2 x0,Ac (.m 2 x1) (.a x2 x0)] rT hl (N4 _ _)))) (by exact Ck (Qe 2 (.a x1 (.n 1)) x0) [Ae x2 x0,Ac (.m 2 x1) (.a x2 x0)] rT hl (N4 _ _)) (λi y e q=>?_) b
    rcases lF6 (lG8 q)with q|q
    ·exact lM9 (V9 h e em q) hc
    ·subst q;rw[em]at e;cases e;exact hc
   ·rw[lO5 hc];refine Qf h f lo _ (lM6 hm) (by exact X6 λZ=>An [_,_,_,_,_,_] [Zx 2 x0 x1,Ac x2 (.a x0 (.n 1)),Ac (.n 0) x0,Ac x3 (.a x2 x4),Ac (.m 2 x5) (.a x4 x3),zNc 2 (.a x1 x4) x5] rT Z h2 (lq5 _) (Ao _ _) (N4 _ _) (Aq (Ck (Qe 2 x0 x1) [Ae x0 x2,Ae (.a x0 x2) (.a (.m 2 x1) (.n 2))] rT hl (Sy _ (Nat.succ_pos _))))) (by exact Ck (Qe 2 x0 x1) [Ae x0 x2,Ae (.a x0 x2) (.a (.m 2 x1) (.n 2))] rT hl (Sy _ (Nat.succ_pos _))) a (λi y e q=>?_)
    rcases lF6 q with q|q
    ·exact lM6 (lF3 (Nat.le_of_not_lt hc) (V9 h em e q))
    ·subst q;rw[em]at e;cases e;exact Nat.le_of_not_lt hc
  ·rw[lO5 hl];exact⟨lM7 h3 h1,a,λi y e q=>b i y e (by exact lM7 (lN7.mp hl) q)⟩
theorem Ml(h:xs.toList.Pairwise (· < ·))(j:Nat):Zg xs.toList j (SetTable.below xs j):=
 Qf h _ 0 _ (lM5 lD9.symm) (lN4 _) (lq5 _) (λ_ _ _ q=>absurd q (lJ9 _)) λi y e q=>by
  have:=(lq2 e).1
  rw[lD9]at this;exact absurd this (lN7.mpr q)
theorem Tu{xs:Array Nat}(h:xs.toList.Pairwise (· < ·)){j:Nat}(hn:∀i:Nat,xs.toList[i]?≠some j):(SetTable.insertAt xs (SetTable.below xs j) j).toList.Pairwise (· < ·):=by
 have B:=Ml h j;rw[SetTable.toList_insertAt];refine lD7.mpr ⟨h.sublist (List.take_sublist _ _),lF2.mpr ⟨λy m=>?_,h.sublist (List.drop_sublist _ _)⟩,λx mx y my=>?_⟩
 ·obtain⟨i,e⟩:=List.mem_iff_getElem?.mp m
  rw[lE9]at e;exact lF4 (B.hi _ y e (lI4 _ _)) λz=>hn _ (e.trans (lO2 some z.symm))
 ·obtain⟨i,ex⟩:=List.mem_iff_getElem?.mp mx
  have hi:i<SetTable.below xs j:=by
   have:=(lq2 ex).1
   rw[lI2]at this;lia
  rw[lB0 hi]at ex;rcases lL5.mp my with rfl|my
  ·exact B.lo i x ex hi
  ·obtain⟨k,ey⟩:=List.mem_iff_getElem?.mp my
   rw[lE9]at ey;exact V9 h ex ey (by exact Ck (Ae x0 (.a x1 x2)) [Ae x0 x1,Ac (.n 0) x2] rT hi (lq5 _))
theorem Yu{b:Bool}{t:SetTable}(T:Qs b t){j:Nat}(h:t.slot j=.empty):∀i:Nat,t.place.toList[i]?≠some j:=λi e=>by
 have B:=Ml T.ris j;have e2:t.place[SetTable.below t.place j]? =some j:=by
  rcases lH1 i (SetTable.below t.place j)with q|q|q
  ·exact absurd (B.lo i j e q) (lL7 _)
  ·rw[←q,←lC2];exact e
  ·have hl:SetTable.below t.place j<t.place.toList.length:=lM9 q (lq2 e).1
   have:=V9 T.ris (lA9 hl) e q
   exact absurd this (lN7.mpr (B.hi _ _ (lA9 hl) (lN4 _)))
 unfold SetTable.slot at h;dsimp only at h;rw[e2,lO6 (by simp)]at h
 cases h
theorem Td(T:Qs b t):t.slot j≠.dummy:=λh=>by
 unfold SetTable.slot at h;dsimp only at h;rw[T.dum]at h;split at h
 ·cases h
 ·have:SetTable.has #[] j=false:=by unfold SetTable.has;simp
  rw[this]at h;simp at h
theorem Nl(T:Qs b t):∀(f:Nat) (p:SetTable.Probe) (j:Nat) (d:Option Nat),p.dummy=none->SetTable.probe.go t ha h f p=some (.empty j d)->t.slot j=.empty/\d=none
 |0,p,j,d,_,e=>by cases e
 |f+1,p,j,d,hp,e=>by
  have adv:∀q:SetTable.Probe,q.dummy=none->(t.advance q).dummy=none:=λq hq=>by
   unfold SetTable.advance;split
   ·exact hq
   ·exact hq
  have e:(match t.slot p.j with|.empty=>some (.empty p.j p.dummy)|.dummy=>SetTable.probe.go t ha h f (t.advance {p with dummy:=some p.j})|.live i=>if ha i==h then some (.candidate p.j i (t.advance p))else SetTable.probe.go t ha h f (t.advance p))=some (.empty j d):=e
  cases hs:t.slot p.j with
  |empty=>rw[hs]at e;cases e;exact⟨hs,hp⟩
  |dummy=>exact absurd hs (Td T)
  |live i=>
   rw[hs]at e;dsimp only at e;split at e
   ·cases e
   ·exact Nl T f _ j d (adv p hp) e
theorem zGL(T:Qs b t)(e:t.freeSlot h=some (j,wd)):∀i:Nat,t.place.toList[i]?≠some j:=by
 unfold SetTable.freeSlot at e
 cases hp:t.probe (λ_=>h+1) h (t.probeStart h)with
 |none=>rw[hp]at e;cases e
 |some m=>cases m with
  |candidate _ _ _=>rw[hp]at e;cases e
  |empty j' d=>
   rw[hp]at e;obtain⟨h1,h2⟩:=Nl T _ _ j' d rfl hp;subst h2
   cases e;exact Yu T h1
theorem Ww(n:Nat):(Array.range n).toList.Pairwise (· < ·):=by rw[Array.toList_range];exact List.pairwise_lt_range
theorem Ib(T:Qs b t)(n:Nat):Qs b (t.standIn n):=⟨Ww n,rfl,T.led⟩
theorem zBI(T:Qs b t)(es:Array (Int×Value))(h:Int)(x:Value):Qs b (layNew t es h x).2.1:=by
 unfold layNew
 cases e:t.freeSlot h with
 |none=>exact Ib T _
 |some p=>
  obtain⟨slot,wd⟩:=p;dsimp only;have T':Qs b (t.put slot).1:=⟨Tu T.ris (zGL T e),by
   show(if SetTable.has t.dummies slot=true then _ else t.dummies)= #[]
   rw[T.dum,lO5 (by unfold SetTable.has;simp)],T.led⟩
  unfold SetTable.orStandIn;split
  ·exact T'
  ·exact Ib T' _
theorem Fv{f:Nat->Option Nat}:∀(l:List Nat),l.Pairwise (· < ·)->((l.filterMap λj=>(f j).map (j,·)).map (·.1)).Pairwise (· < ·)
 |[],_=>.nil
 |a::l,h=>by
  rw[lF2]at h;rw[List.filterMap_cons]
  cases e:f a with
  |none=>exact Fv l h.2
  |some k=>
   rw[lK1,lL4];refine lF2.mpr ⟨λy m=>?_,Fv l h.2⟩
   obtain⟨p,mp,rfl⟩:=lM4.mp m;obtain⟨c,mc,ec⟩:=List.mem_filterMap.mp mp
   cases q:f c with
   |none=>rw[q]at ec;cases ec
   |some z=>rw[q]at ec;cases ec;exact h.1 c mc
theorem X2{b:Bool}{t:SetTable}(T:Qs b t)(es:Array (Int×Value))(n:Nat):Qs b (relayAll t es n).2.1:=by
 unfold relayAll;split
 ·rename_i t' order e;dsimp only;split
  ·unfold SetTable.relaid SetTable.laid at e;obtain⟨owner,eo,e⟩:=lB3.mp e
   cases e;refine⟨?_,rfl,T.led⟩
   dsimp only;exact Fv (f:=λj=>owner.getD j none) _ List.pairwise_lt_range
  ·exact Ib T _
 ·exact Ib T _
theorem zCf(b:Bool):Qs b (.fresh 0 0 b):=⟨.nil,rfl,rfl⟩
theorem Q5{α:Type}{l:List α}{i:Nat}{x:α}(h:l[i]? =some x):(x::l.eraseIdx i).Perm l:=by
 obtain⟨hl,rfl⟩:=lq2 h;rw[List.eraseIdx_eq_take_drop_succ];have e:l=l.take i++l[i]::l.drop (i+1):=by rw[←lA4 hl,lC9]
 exact(List.perm_middle.symm).trans (.of_eq e.symm)
theorem Rf{α:Type}{next:Nat->Nat}:∀(f k:Nat) (left:List α) (out:Array α),left.length<=f->(pickOrder.go next f k left out).toList.Perm (out.toList++left)
 |0,k,left,out,h=>by
  rw[lA1 (Nat.le_zero.mp h),lJ0];exact .rfl
 |f+1,k,left,out,h=>by
  cases left with
  |nil=>rw[lJ0];exact .rfl
  |cons a l=>
   have hlt:next k % (a::l).length<(a::l).length:=Nat.mod_lt _ (Nat.succ_pos _)
   have e:=lA9 hlt;have e2:pickOrder.go next (f+1) k (a::l) out=pickOrder.go next f (k+1) ((a::l).eraseIdx (next k % (a::l).length)) (out.push (a::l)[next k % (a::l).length]):=lO2 (λo:Option α=>match o with|some x=>pickOrder.go next f (k+1) ((a::l).eraseIdx (next k % (a::l).length)) (out.push x)|none=>out) e
   rw[e2];refine(Rf f _ _ _ ?_).trans ?_
   ·rw[List.length_eraseIdx_of_lt hlt];simp only[lI0]at h ⊢;exact Cp (Ac x0 x1) [Ac (.a x0 (.n 1)) (.a x1 (.n 1))] rT h
   ·rw[lG0,lq8];exact List.Perm.append_left _ (Q5 e)
theorem Gz{next:Nat->Nat}{α:Type}(xs:Array α):(pickOrder next xs).toList.Perm xs.toList:=by
 unfold pickOrder;exact Rf (next:=next) xs.size 0 xs.toList #[] (by simp)
noncomputable abbrev Io (es:Array (Int×Value))(ep:Nat)(t:SetTable):Obj:={cls:=.type "set",dict:=none,data:=.set es ep t,slots:= #[]}
noncomputable abbrev Od (w:World):Bool:=w.params.followText "set-order"
inductive Ql (prog:Program)(w:World)(h:Heap)(a:Addr)(ks:List Int):Prop
 |mk (es:Array (Int×Value)) (ep:Nat) (t:SetTable) (ho:h.get? a=some (Io es ep t)) (T:Qs (!Od w) t) (fit:t.fits es.size=true) (el:ElemsOf (intKind prog w) es.toList) (ns:List Int) (hn:Dc (es.toList.map (·.2)) ns) (hp:ns.Perm ks)
noncomputable def N7 (ks:List Int)(k:Int):List Int:=if ks.contains k=true then ks else ks++[k]
theorem zEn(ks:List Int)(k:Int):(N7 ks k).length<=ks.length+1:=by unfold N7;split<;>simp
section
variable {prog:Program}{w:World}{A:Around}{E:Value->Shared->Prop}{s:Shared}
theorem Dc.snoc(h:Dc vs ns)(k:Int)(t:Tok):Dc (vs++[.int k t]) (ns++[k]):=Bs.append h (.cons ⟨t,rfl⟩ .nil)
theorem R4{l l':List (Int×Value)}{ns:List Int}(p:l'.Perm l)(h:Dc (l.map (·.2)) ns):∃ns',Dc (l'.map (·.2)) ns'/\ns'.Perm ns:=by
 obtain⟨m,hm,ha⟩:=Bs.perm (R:=λv n=>∃t,v=Value.int n t) (p.map λ(x:Int×Value)=>x.2) (m:=ns) h
 exact⟨m,ha,hm⟩
theorem Zz{es:List (Int×Value)}{ns:List Int}(h:Dc (es.map (·.2)) ns)(k:Int):(∃e,e∈es/\(intKind prog w).is k e.2=true)↔k∈ns:=by
 induction es generalizing ns with
 |nil=>cases h;simp
 |cons e es ih=>
  cases h with
  | @cons _ n _ ns' he h'=>
   obtain⟨t,ht⟩:=he;have e1:(intKind prog w).is k e.2=decide (k=n):=KeyKind.is_eq_decide (by rw[show e.2=Value.int n t from ht];exact intKind_is _ _ _ _) k
   constructor
   ·rintro⟨x,mx,hx⟩
    rcases lL5.mp mx with rfl|mx
    ·rw[e1]at hx;rw[lH3 hx];exact lq1
    ·exact lq4 _ ((ih h').mp ⟨x,mx,hx⟩)
   ·intro hk;rcases lL5.mp hk with rfl|hk
    ·exact⟨e,lq1,by rw[e1];exact lL1 rfl⟩
    ·obtain⟨x,mx,hx⟩:=(ih h').mpr hk;exact⟨x,lq4 _ mx,hx⟩
theorem W4(ho:s.heap.get? a=some (Io es ep t))(hz:es'.size<scanBound)(h:∀h',Heap.SameBut a s.heap h'->h'.get? a=some (Io es' (ep+1) t')->Q () {s with heap:=h'}):wpAny (model prog w) A (storeSet a es' t') Q E s:=by
 refine wpAny_storeSet_of ho rfl (h _ (Heap.SameBut.update s.heap a _) ?_) (fits_of_scanBound hz)
 have:=Heap.get?_update_self (Obj.putSet es' t') ho (by rw[putSet_of es' t' rfl];rfl)
 rw[putSet_of es' t' rfl]at this;exact this
theorem zAC(h:Q () s):wpAny (model prog w) A (match b with|true=>rule "set.scan.the-table-gave-way"|false=>pure ()) Q E s:=by
 cases b
 ·exact lO1 h
 ·exact wpAny_rule h
theorem zJZ{a:Addr}{ks:List Int}{k:Int}{tk:Tok}{Q:Bool->Shared->Prop}(hS:Ql prog w s.heap a ks)(hroom:ks.length+1<scanBound)
  (h:∀b h',Heap.SameBut a s.heap h'->Ql prog w h' a (N7 ks k)->Q b {s with heap:=h'}):wpAny (model prog w) A (setAddHashed a (.int k tk) ((intKind prog w).hash k)) Q E s:=by
 obtain⟨es,ep,t,ho,T,fit,el,ns,hn,hp⟩:=hS;have hsz:es.size=ks.length:=by
  have h1:=Bs.length hn;rw[lq6,lD9]at h1;rw[h1,hp.length_eq]
 have hkey:=intKind_is prog w k tk;unfold setAddHashed setAddHashedIn;refine lL8 (lN9 (lH5 ho rfl fit ?_))
 dsimp only;rw[byScan_of (x:=.int k tk) rfl (by exact Ck (Ae x1 x0) [Ae (.a x2 (.n 1)) x0,eq1 x1 x2] rT hroom hsz) el]
 simp only[↓reduceIte];unfold setAddByScan;refine lN9 (lN9 (wpAny_rule (lN9 (wpAny_setScan_of hkey ho rfl fit el ?_))))
 cases hr:List.findIdx? (λe=>(intKind prog w).is k e.2) es.toList with
 |some j=>
  dsimp only;obtain⟨hj,hpj,_⟩:=List.findIdx?_eq_some_iff_getElem.mp hr
  have hk:k∈ks:=hp.mem_iff.mp ((Zz hn k).mp ⟨_,List.getElem_mem hj,hpj⟩)
  refine lO1 (lO1 ?_)
  have:=h false s.heap (Heap.SameBut.refl a s.heap) (by unfold N7;rw[lO6 (lC3.mpr hk)];exact⟨es,ep,t,ho,T,fit,el,ns,hn,hp⟩)
  exact this
 |none=>
  dsimp only;have hk:¬k∈ks:=λm=>by
   obtain⟨e,he,hpe⟩:=(Zz (prog:=prog) (w:=w) hn k).mpr (hp.mem_iff.mpr m)
   have:=List.findIdx?_eq_none_iff.mp hr e he
   rw[hpe]at this;exact Bool.noConfusion this
  have hperm:=layNew_perm t es ((intKind prog w).hash k) (.int k tk);have hfits:=layNew_fits t es ((intKind prog w).hash k) (.int k tk);have hT:=zBI T es ((intKind prog w).hash k) (.int k tk);generalize hL:layNew t es ((intKind prog w).hash k) (.int k tk)=L at hperm hfits hT ⊢
  obtain⟨es1,t1,wd,gave⟩:=L;dsimp only at hperm hfits hT ⊢;rw[lG0]at hperm;have el1:ElemsOf (intKind prog w) es1.toList:=(el.push hkey rfl).perm hperm
  obtain⟨ns1,hn1,hp1⟩:=R4 hperm (ns:=ns++[k]) (by rw[lJ5];exact hn.snoc k tk)
  have hp2:ns1.Perm (N7 ks k):=by
   unfold N7;rw[lO5 (λz=>hk (lC3.mp z))]
   exact hp1.trans (hp.append_right _)
  have hz1:es1.size<scanBound:=by rw[←lD9,hperm.length_eq,lq7,lD9,hsz];exact hroom
  refine lN9 (zAC ?_)
  have fin:∀t2:SetTable,Qs (!Od w) t2->t2.fits es1.size=true->wpAny (model prog w) A (do
    storeSet a es1 t2
    if(!wd&&t2.tooFull)=true then do
      (match(relayAll t2 es1 (SetTable.grown es1.size)).2.2 with|true=>rule "set.scan.the-table-gave-way"|false=>pure ())
      storeSet a (relayAll t2 es1 (SetTable.grown es1.size)).1 (relayAll t2 es1 (SetTable.grown es1.size)).2.1
      pure (some true)
     else pure (some true)) (λr s'=>wpAny (model prog w) A (match r with|some added=>pure added|none=>setAddHashedIn a (.int k tk) ((intKind prog w).hash k) 99999) Q E s') E s:=λt2 T2 f2=>by
   refine lN9 (W4 ho hz1 λh1 sb1 ho1=>?_)
   split
   ·have rp:=relayAll_perm t2 es1 (SetTable.grown es1.size);have rf:=relayAll_fits t2 es1 (SetTable.grown es1.size);have rT:=X2 T2 es1 (SetTable.grown es1.size);generalize relayAll t2 es1 (SetTable.grown es1.size)=Rl at rp rf rT ⊢
    obtain⟨es2,t3,gave2⟩:=Rl;dsimp only at rp rf rT ⊢;obtain⟨ns2,hn2,hp3⟩:=R4 rp hn1;refine lN9 (zAC (lN9 (W4 ho1 (by rw[←lD9,rp.length_eq,lD9];exact hz1) λh2 sb2 ho2=>?_)))
    exact lO1 (lO1 (h true h2 (sb1.trans sb2) ⟨es2,_,t3,ho2,rT,rf,el1.perm rp,ns2,hn2,hp3.trans hp2⟩))
   ·exact lO1 (lO1 (h true h1 sb1 ⟨es1,_,t2,ho1,T2,f2,el1,ns1,hn1,hp2⟩))
  split
  ·refine lN9 ?_
   rw[hashByValue_scannable 8 (x:=.int k tk) rfl]
   exact lO1 (fin t1 hT hfits)
  ·exact lN9 (lO1 (fin t1 hT hfits))
noncomputable def Dq (ns:List Int):List Int:=ns.foldl N7 []
theorem O6(ns:List Int)(k:Int):Dq (ns++[k])=N7 (Dq ns) k:=by unfold Dq;rw[List.foldl_append];rfl
theorem P0:∀n (ns:List Int),ns.length=n->(Dq ns).length<=n
 |0,ns,h=>by rw[lA1 h];exact lN4 _
 |n+1,ns,h=>by
  obtain⟨l,k,rfl⟩:∃l k,ns=l++[k]:=⟨ns.dropLast,ns.getLast (by intro z;rw[z]at h;cases h),(List.dropLast_concat_getLast _).symm⟩
  rw[O6];have:=zEn (Dq l) k
  have h2:=P0 n l (by simp at h;exact h)
  exact Ck (Ac x1 (.a x0 (.n 1))) [Ac x1 (.a x2 (.n 1)),Ac x2 x0] rT this h2
theorem zHg{R:Result->Shared->Prop}{I:Addr}{fp wr:List Addr}{G:Array GenState->Array GenState->Prop}{ns:List Int}{P:Nat->Value->Prop}{St:Nat->Shared->Prop}(W:WalksS prog w A.in1 I fp wr G ns.length P St)(S:Addr)(hSf:S∉fp)(hval:∀i v,P i v->∃k t,ns[i]? =some k/\v=.int k t)(hb:ns.length+1<scanBound):
  ∀(r i:Nat) (s:Shared),ns.length - i=r->i<=ns.length->St i s->Ql prog w s.heap S (Dq (ns.take i))->
   (∀s',Moved (S::wr) G s s'→Ql prog w s'.heap S (Dq ns)→R (.ok (.ret .none)) s')→codeAny (model prog w) A (.builtin "set.update.loop" ⟨[.ref S,.ref I],[]⟩) R s:=by
 have hSw:S∉wr:=λh=>hSf (W.sub _ h)
 have hsub:∀b∈wr,b∈S::wr:=λb hb=>lq4 _ hb
 have mv:∀{s s':Shared}{ks:List Int},Moved wr G s s'->Ql prog w s.heap S ks->Ql prog w s'.heap S ks:=λm ⟨es,ep,t,ho,T,fit,el,ns,hn,hp⟩=>⟨es,ep,t,m.heap S _ hSw ho,T,fit,el,ns,hn,hp⟩
 intro r
 induction r with
 |zero=>
  intro i s hr hi hst hS hR;have:i=ns.length:=by exact Du (λZ=>An [_,_,_] [Ae x1 x0,eq1 x2 (.n 0),Ac x0 (.a x2 x1)] rT Z hr (Ao _ _)) (λZ=>An [_,_] [Ae x0 x1,Ac x1 x0] rT Z hi)
  subst this;rw[List.take_length]at hS;refine lK5 F.entry_set_update_loop ?_
  rw[lD0 F.plain_set_update_loop _];refine lN9 (m:=pyNext (.ref I)) (W.done s _ _ hst λs' hm=>?_)
  exact lO1 (hR s' (hm.mono hsub) (mv hm hS))
 |succ r ih=>
  intro i s hr hi hst hS hR;have hlt:i<ns.length:=by exact Cd (Ae x1 x0) [Cz x2 (.a x3 (.n 1)),Ac (.n 0) x3,eq1 (.a x2 x1) x0] rT hr (lq5 _) (Aq (hi))
  refine lK5 F.entry_set_update_loop ?_
  rw[lD0 F.plain_set_update_loop _];refine lN9 (m:=pyNext (.ref I)) (W.item i s _ _ hlt hst λv s' hP hst' hm=>?_)
  obtain⟨k,t,hk,rfl⟩:=hval i v hP;refine lN9 (m:=holding [Value.int k t] (setAdd S (.int k t))) (lL8 ?_)
  unfold setAdd;refine lL8 (lN9 ((intKind prog w).pyHash (k:=k) (intKind_is _ _ _ _) ?_))
  have hl:=P0 _ (ns.take i) rfl;rw[lI2]at hl;refine zJZ (s:={s' with toks:=s'.toks+1}) (show Ql prog w s'.heap S _ from mv hm hS) (by lia) λb h' hsb hS2=>?_
  refine lO1 ⟨plainId_quiet F.plain_set_update_loop _,ih (i+1) _ (by exact Du (λZ=>An [_,_,_,_,_] [Ae x1 x0,Cz x2 (.a x0 (.n 1)),Ac x3 (.a x1 (.a x4 (.n 1))),eq1 (.a x2 x4) x3] rT Z hr (Ao _ _) (Aq (hi))) (λZ=>An [_,_,_,_,_] [Ae x0 x1,eq1 x2 (.a x0 (.n 1)),Ac x3 (.a x2 x4),eq1 (.a x1 (.a x4 (.n 1))) x3] rT Z hr (Ao _ _) (Aq (hlt)))) hlt (W.frame _ s' _ _ hst' (lN5 _) λb hb o e=>?_) ?_ λs'' hm'' hS''=>?_⟩
  ·rw[hsb.2 b (λz=>hSf (z▸hb))];exact e
  ·rw[List.take_add_one,hk];exact(O6 (ns.take i) k).symm▸hS2
  ·refine hR s'' (Moved.trans W.gtrans ((hm.mono hsub).then_heap (lN5 _) λb o hb e=>?_) hm'') hS''
   rw[hsb.2 b (λz=>hb (z▸lq1))];exact e
end
section
variable {prog:Program}{w:World}{A:Around}{E:Value->Shared->Prop}{s:Shared}
theorem zKw(h:Q₁ (.ref s.heap.objs.size) {s with heap:=s.heap.push (Io #[] 0 (.fresh 0 0 (!Od w)))}):
  codeAny (model prog w) A (.call (.builtin "set.__new__") ⟨[.type "set",a],[]⟩) (wants Q₁ E) s:=by
 refine lK6 ?_
 show wpAny _ A.in1 (do checkBuiltinCall "set.__new__" ⟨[.type "set",a],[]⟩;again (.builtin "set.__new__" ⟨[.type "set",a],[]⟩)) _ _ s
 refine lN9 (wpAny_of_eq (PySem.F.newCall_set_1 a) (lO1 ⟨plainId_quiet PySem.F.plain_set_new _,lK5 PySem.F.entry_set_new ?_⟩))
 rw[lD0 PySem.F.plain_set_new _];unfold Builtin.«set.__new__» Builtin.Frozenset.newClass
 have hsub:=sub_set_self;obtain⟨hp,g,d,tk,os⟩:=s;dsimp only;wp_walk
 refine wpAny_askSetting (lO1 ?_)
 dsimp only;simp only[newObj];refine lN9 (wpAny_alloc (lO1 ?_))
 exact lO1 h
set_option maxHeartbeats 3200000 in
theorem zEs(hh:A.handled=none)(hl:s.heap.IsList l items)(hi:Dc items.toList ns)(hb:ns.length+1<scanBound)(h:∀(h':Heap) (tk:Nat),Ql prog w h' s.heap.objs.size (Dq ns)->(∀b o,s.heap.get? b=some o->h'.get? b=some o)->Q (.ref s.heap.objs.size) {s with heap:=h',toks:=tk}):
  wpAny (model prog w) A (call (.type "set") [.ref l]) Q E s:=by
 obtain⟨c,tl,hmro⟩:=PySem.F.called_set.mro;have hmade:=PySem.F.called_set.made;have hsub:=PySem.F.called_set.sub;refine wpAny_call (lK6 ?_)
 show wpAny _ _ (callAny (.type "set") _) _ _ _
 refine lO1 ⟨Code.quiet_builtin _ (by decide+kernel),lK5 PySem.F.entry_type_call ?_⟩
 rw[Around.under_plain (weight_type_call_type "set" [.ref l] []) rfl];have h1:=PySem.F.called_set.notType;have h2:=PySem.F.called_set.canCreate;have hct:=PySem.F.typeCall_set_1 (.ref l)
 repeat (any_goals (first|assumption|wp_step))
 refine codeAny_mono (zKw (a:=.ref l) (E:=E) (Q₁:=λobj s₁=>obj=.ref s.heap.objs.size/\s₁={s with heap:=s.heap.push (Io #[] 0 (.fresh 0 0 (!Od w)))}) ⟨rfl,rfl⟩) λr s₁ hr=>?_
 cases r with
 |error e=>exact hr
 |ok fl=>
  cases fl with
  |ret obj=>
   obtain⟨rfl,rfl⟩:=hr;have hS:(s.heap.push (Io #[] 0 (.fresh 0 0 (!Od w)))).get? s.heap.objs.size=some (Io #[] 0 (.fresh 0 0 (!Od w))):=lE1 _ rfl
   have hT:Shared.TypeIs {s with heap:=s.heap.push (Io #[] 0 (.fresh 0 0 (!Od w)))} (.ref s.heap.objs.size) "set":=⟨_,hS,rfl⟩
   have hli:=PySem.F.called_set.init.lookup;have hbi:=PySem.F.called_set.init.bind (.ref s.heap.objs.size)
   repeat (any_goals (first|assumption|wp_step))
   refine codeAny_mono (codeAny_call_builtin (R:=wants (λr s₂=>r=.none/\∃h' tk,s₂={s with heap:=h',toks:=tk}/\Ql prog w h' s.heap.objs.size (Dq ns)/\(∀b o,s.heap.get? b=some o->h'.get? b=some o)) E) PySem.F.called_set.init.plain PySem.F.entry_set_init (check_set_init_1 hT ?_)) λr₂ s₂ hr₂=>?_
   ·obtain⟨ol,hol,hcl,nl,hdl⟩:=hl;obtain⟨ocls,odict,odata,oslots⟩:=ol;simp only at hcl hdl
    subst hcl;subst hdl;have hol':(s.heap.push (Io #[] 0 (.fresh 0 0 (!Od w)))).get? l=some {cls:=.type "list",dict:=odict,data:=.seq items nl,slots:=oslots}:=lB6 _ hol
    have hsls:=PySem.F.sub_list_set;have hslf:=PySem.F.sub_list_frozenset;have hne:(Value.type "list"==Value.type "dict")=false:=by decide
    have hl1:(s.heap.push (Io #[] 0 (.fresh 0 0 (!Od w)))).IsList l items:=⟨_,hol',rfl,nl,rfl⟩
    have hlS:l<s.heap.objs.size:=lM0 hol
    have hsz:items.size=ns.length:=Dc.size hi
    unfold Builtin.«set.__init__» noKeywords Builtin.Frozenset.updateFrom
    generalize hPI:pyIter=PI
    wp_walk
    subst hPI;refine wpAny_pyIter_list hl1 (lN9 (wpAny_runValue ?_))
    have hh3:A.in1.in1.in1.handled=none:=by simp[hh]
    have z1:(s.heap.push (Io #[] 0 (.fresh 0 0 (!Od w)))).objs.size=s.heap.objs.size+1:=lK7 ..
    have hneI:l≠(s.heap.push (Io #[] 0 (.fresh 0 0 (!Od w)))).objs.size:=by rw[z1];exact lN0 (lH0 hlS)
    have W:=(Walks.list (prog:=prog) (w:=w) hh3 _ l hneI items).toS;rw[hsz]at W;refine zHg (ns:=ns) W s.heap.objs.size (by rw[z1];simp only[lL5,lI3,or_false,not_or];exact⟨lN0 (lI5 _),Nat.ne_of_gt hlS⟩) (λi v hv=>?_) hb (ns.length - 0) 0 _ rfl (lq5 _) ⟨⟨_,lE1 _ rfl,rfl,rfl⟩,hl1.push _⟩ ?_ λs' hm hS'=>?_
    ·obtain⟨k,hk,t,e⟩:=Bs.get' hi i v (by rw[lC2];exact hv)
     exact⟨k,t,hk,e⟩
    ·exact⟨#[],0,_,lB6 _ hS,zCf _,rfl,(λ_ m=>nomatch m),[],Bs.nil,.refl _⟩
    ·obtain⟨h',g',d',tk',os'⟩:=s';have eg:g'=s.gens:=hm.gens
     have ed:d'=s.drawn:=hm.drawn
     have eo:os'=s.os:=hm.os
     subst eg;subst ed;subst eo;show wpAny _ _ _ _ _ _
     refine lO1 ?_
     show wpAny _ _ (ret Value.none) _ _ _
     refine lO1 ⟨rfl,h',tk',rfl,hS',λb o e=>?_⟩
     have hbl:=lM0 e;exact hm.heap b o (by rw[z1];simp only[lL5,lI3,or_false,not_or];exact⟨lN0 hbl,lN0 (lH0 hbl)⟩) (lB6 _ (lB6 _ e))
   ·cases r₂ with
    |error e=>exact hr₂
    |ok fl₂=>
     cases fl₂ with
     |ret r=>
      obtain⟨rfl,h',tk,rfl,hS',hk'⟩:=hr₂
      repeat (any_goals (first|assumption|wp_step))
      exact h _ _ hS' hk'
     |_=>exact hr₂.elim
  |_=>exact hr.elim
end
theorem Dw:Slot "set_iterator" "__next__" "set_iterator.__next__":=
 .of (owner:="set_iterator") (n:="__next__") (by rw[typeLookup_type,builtinLookup_eq_fast];kernel_rfl) (by decide+kernel) (by decide+kernel) (by decide+kernel)
  (by first|exact .inl (by decide+kernel)|exact .inr (by decide+kernel)) (by rw[lL2];kernel_rfl)
theorem Kq:entryFor table "set_iterator.__next__"=some Builtin.«set_iterator.__next__» :=entryFor_of_tree (by kernel_rfl)
theorem M7(a:Value):argsOk "set_iterator.__next__" ⟨[a],[]⟩:=by unfold argsOk;kernel_rfl
theorem Lk:Slot "set_iterator" "__iter__" "set_iterator.__iter__":=
 .of (owner:="set_iterator") (n:="__iter__") (by rw[typeLookup_type,builtinLookup_eq_fast];kernel_rfl) (by decide+kernel) (by decide+kernel) (by decide+kernel)
  (by first|exact .inl (by decide+kernel)|exact .inr (by decide+kernel)) (by rw[lL2];kernel_rfl)
theorem Qt:entryFor table "set_iterator.__iter__"=some Builtin.«dict_keyiterator.__iter__» :=entryFor_alias (id':="dict_keyiterator.__iter__") (by kernel_rfl) rfl (by decide+kernel) (by kernel_rfl)
theorem Sg(a:Value):argsOk "set_iterator.__iter__" ⟨[a],[]⟩:=by unfold argsOk;kernel_rfl
theorem Pe:entryFor table "set.__iter__"=some Builtin.«frozenset.__iter__» :=entryFor_alias (id':="frozenset.__iter__") (by kernel_rfl) rfl (by decide+kernel) (by kernel_rfl)
noncomputable abbrev zOe (first:Value)(i:Nat)(a:Addr)(n ep:Nat):Obj:={cls:=.type "set_iterator",data:=.fields #[first,rawInt i,.ref a,rawInt n,rawInt ep]}
inductive Hm (w:World)(a:Addr)(es:Array (Int×Value))(ep:Nat)(t:SetTable)(vs:List Value):List Addr->Heap->Nat->Value->Prop
 |txt {h:Heap}{i:Nat}(hb:Od w=true) (hv:vs=(pickOrder (w.params.setOrder a ep) es).toList.map (·.2)):Hm w a es ep t vs [] h i (rawInt 0)
 |plc {h:Heap}{i:Nat}(j:Nat) (hb:Od w=false) (hd:(!t.plain&&decide (es.size>1))=false) (hj:SetTable.below t.place j=i) (hv:vs=es.toList.map (·.2)):Hm w a es ep t vs [] h i (rawInt j)
 |drw {h:Heap}{i:Nat}(tp:Addr) (ps:List Nat) (ht:h.get? tp=some (Xk (ps.map λ(p:Nat)=>rawInt p).toArray 0)) (hp:ps.Perm (List.range es.size)) (hv:vs=ps.filterMap λp=>(es[p]?).map (·.2)):Hm w a es ep t vs [tp] h i (.ref tp)
inductive zNV (w:World)(a I:Addr)(es:Array (Int×Value))(ep:Nat)(t:SetTable)(vs:List Value)(tps:List Addr)(i:Nat)(s:Shared):Prop
 |mk (first:Value) (hs:s.heap.get? a=some (Io es ep t)) (hi:s.heap.get? I=some (zOe first i a es.size ep)) (hf:Hm w a es ep t vs tps s.heap i first)
theorem Zv{es:Array (Int×Value)}{ps:List Nat}(hp:ps.Perm (List.range es.size)):(ps.filterMap λp=>(es[p]?).map (·.2)).length=ps.length/\∀k:Nat,(ps.filterMap λp=>(es[p]?).map (·.2))[k]? =(ps[k]?).bind λp=>(es[p]?).map (·.2):=by
 have hm:∀p,p∈ps->p<es.size:=λp m=>lK9.mp (hp.mem_iff.mp m)
 clear hp
 induction ps with
 |nil=>exact⟨rfl,λk=>by simp⟩
 |cons p ps ih=>
  obtain⟨h1,h2⟩:=ih λq m=>hm q (lq4 _ m)
  have hp:=hm p lq1;have e:(es[p]?).map (·.2)=some es[p].2:=by rw[Array.getElem?_eq_getElem hp];rfl
  rw[List.filterMap_cons,e];refine⟨by simp[h1],λk=>?_⟩
  cases k with
  |zero=>simp[e]
  |succ k=>simpa using h2 k
theorem Hm.len{w:World}{a:Addr}{es:Array (Int×Value)}{ep:Nat}{t:SetTable}{vs:List Value}{tps:List Addr}{h:Heap}{i:Nat}{f:Value}(F:Hm w a es ep t vs tps h i f):vs.length=es.size:=by
 cases F with
 |txt hb hv=>rw[hv,lq6,(Gz es).length_eq,lD9]
 |plc j hb hd hj hv=>rw[hv,lq6,lD9]
 |drw tp ps ht hp hv=>rw[hv,(Zv hp).1,hp.length_eq,lG4]
theorem Hm.perm(F:Hm w a es ep t vs tps h i f):vs.Perm (es.toList.map (·.2)):=by
 cases F with
 |txt hb hv=>rw[hv];exact(Gz es).map _
 |plc j hb hd hj hv=>rw[hv]
 |drw tp ps ht hp hv=>
  rw[hv];refine(hp.filterMap _).trans (.of_eq ?_)
  rw[←filterMap_getElem?_range es,List.map_filterMap]
theorem Hm.mono(F:Hm w a es ep t vs tps h i f)(k:∀b,b∈tps->∀o,h.get? b=some o->h'.get? b=some o):Hm w a es ep t vs tps h' i f:=by
 cases F with
 |txt hb hv=>exact .txt hb hv
 |plc j hb hd hj hv=>exact .plc j hb hd hj hv
 |drw tp ps ht hp hv=>exact .drw tp ps (k tp lq1 _ ht) hp hv
section
variable {prog:Program}{w:World}{A:Around}{E:Value->Shared->Prop}{s:Shared}
theorem Ki(h:Q (Od w) s):wpAny (model prog w) A setsByText Q E s:=by
 unfold setsByText;exact lN9 (wpAny_askSetting (lO1 h))
theorem Np(ho:s.heap.get? a=some (Io es ep t))(fit:t.fits es.size=true)(hb:Od w=true)(h:Q (((pickOrder (w.params.setOrder a ep) es)[i]?).map λe=>(e.2,slot)) s):wpAny (model prog w) A (setNext a slot i ep) Q E s:=by
 unfold setNext;refine lN9 (lH5 ho rfl fit (lN9 (Ki ?_)))
 rw[hb];simp only[lO4,bne_self_eq_false,lE6,lO3];refine lN9 ?_
 unfold setWalk;refine lN9 (lH5 ho rfl fit (lN9 (Ki ?_)))
 rw[hb];simp only[lO4];exact lN9 (wpAny_askSetting (lO1 (lO1 h)))
theorem Nw(ho:s.heap.get? a=some (Io es ep t))(fit:t.fits es.size=true)(hb:Od w=false)(hl:t.led=true)(hd:(!t.plain&&decide (es.size>1))=false)(h:Q (match es[SetTable.below t.place slot]?,t.place[SetTable.below t.place slot]? with|some (_,x),some j=>some (x,j+1)|_,_=>none) s):wpAny (model prog w) A (setNext a slot i ep) Q E s:=by
 unfold setNext;refine lN9 (lH5 ho rfl fit (lN9 (Ki ?_)))
 rw[hb];simp only[lE6,lO3];show wpAny _ _ (if(!t.plain&&decide (es.size>1))=true then _ else _) _ _ _
 rw[hd];simp only[lE6,lO3];refine lN9 ?_
 show wpAny _ _ (if(!t.led&&!es.isEmpty)=true then _ else _) _ _ _
 rw[hl];simp only[Bool.not_true,Bool.false_and,lE6,lO3];exact lO1 (lO1 h)
theorem Ux(ho:s.heap.get? a=some (Io es ep t))(fit:t.fits es.size=true)(hx:es[p]? =some x)(h:Q x.2 s):wpAny (model prog w) A (setNextDrawn a p ep) Q E s:=by
 unfold setNextDrawn;refine lN9 (lH5 ho rfl fit ?_)
 simp only[bne_self_eq_false,lE6,lO3,hx];exact lO1 h
theorem Z3(T:Qs b t)(h:t.place.toList[i]? =some j):SetTable.below t.place (j+1)=i+1:=by
 have B:=Ml T.ris (j+1);have hl:=(lq2 h).1;rcases lH1 (SetTable.below t.place (j+1)) (i+1)with q|q|q
 ·have:=B.hi i j h (lG8 q);exact Du (λZ=>An [_] [Ac (.a x0 (.n 1)) x0] rT this) (λZ=>An [_,_] [Ae (.a x0 (.n 1)) x1,Ae x1 (.a x0 (.n 1))] rT Z q)
 ·exact q
 ·have h2:i+1<t.place.toList.length:=by have:=B.le;exact lF5 q this
  have:=V9 T.ris h (lA9 h2) (lI5 i)
  have:=B.lo (i+1) _ (lA9 h2) q
  lia
theorem zAs{a I:Addr}{es:Array (Int×Value)}{ep:Nat}{t:SetTable}{vs:List Value}{tps:List Addr}{i:Nat}{v:Value}{Q:Option Value->Shared->Prop}(T:Qs (!Od w) t)(fit:t.fits es.size=true)(hne:I≠a)(hnt:I∉tps)(W:zNV w a I es ep t vs tps i s)(hv:vs[i]? =some v)
  (hQ:∀h',Heap.SameBut I s.heap h'->zNV w a I es ep t vs tps (i+1) {s with heap:=h'}->Q (some v) {s with heap:=h'}):wpAny (model prog w) A (pyNext (.ref I)) Q E s:=by
 obtain⟨first,hs,hi,F⟩:=W;have hT:s.TypeIs (.ref I) "set_iterator":=⟨_,hi,rfl⟩
 unfold pyNext;refine lN9 (wpAny_attempt (lB4 (name:=Str.ofString "__next__") hT Dw (lI8 Dw hT Kq ?_ (M7 _))))
 unfold Builtin.«set_iterator.__next__»
 refine lN9 (m:=slotArgs "__next__" 0 _) (lO1 ?_)
 refine lN9 (wpAny_fieldsOf hi rfl ?_)
 show wpAny _ _ (setEntries a >>= _) _ _ _
 refine lN9 (lN9 (m:=setState a) (lH5 hs rfl fit (lO1 ?_)))
 rw[lO5 (by simp)];have fin:∀(h1:Heap) (f:Value),Heap.SameBut I s.heap h1->h1.get? I=some (zOe f (i+1) a es.size ep)->Hm w a es ep t vs tps s.heap (i+1) f->wpAny (model prog w) A.in1 (ret v) (λfin s'=>∃v,fin=.done (.ret v)/\wpAny (model prog w) A (pure (some v)) Q E s') E {s with heap:=h1}:=λh1 f sb g F'=>
  lO1 ⟨v,rfl,lO1 (hQ h1 sb ⟨f,(sb.2 a (Ne.symm hne)).trans hs,g,F'.mono λb mb o e=>(sb.2 b λz=>hnt (z▸mb)).trans e⟩)⟩
 cases F with
 |txt hb hvs=>
  have e:(pickOrder (w.params.setOrder a ep) es)[i]? =(pickOrder (w.params.setOrder a ep) es).toList[i]?:=(lC2).symm
  rw[hvs,lG3]at hv;obtain⟨x,hx,rfl⟩:=lC1.mp hv;show wpAny _ _ (setNext a 0 ((i:Int).toNat) ((ep:Int).toNat) >>= _) _ _ _
  rw[lG2,lG2];refine lN9 (Np hs fit hb ?_)
  rw[e,hx];refine lN9 (lF9 hi (by simp) λh1 g1 sb1=>lN9 (lF9 g1 (by simp) λh2 g2 sb2=>?_))
  exact fin h2 (rawInt 0) (sb1.trans sb2) g2 (.txt hb hvs)
 |plc j hb hd hj hvs=>
  rw[hvs,lG3]at hv;obtain⟨x,hx,rfl⟩:=lC1.mp hv;have hsz:t.place.size=es.size:=by
   simp only[SetTable.fits,lH6,lN8]at fit;exact fit.1
  have hil:i<es.size:=by rw[←lD9];exact(lq2 hx).1
  have hpl:t.place[i]? =some t.place[i]:=Array.getElem?_eq_getElem (by rw[hsz];exact hil)
  show wpAny _ _ (setNext a ((j:Int).toNat) ((i:Int).toNat) ((ep:Int).toNat) >>= _) _ _ _
  rw[lG2,lG2,lG2];refine lN9 (Nw hs fit hb (by rw[T.led,hb];rfl) hd ?_)
  rw[hj,hpl,←lC2,hx];obtain⟨xh,xv⟩:=x;refine lN9 (lF9 hi (by simp) λh1 g1 sb1=>lN9 (lF9 g1 (by simp) λh2 g2 sb2=>?_))
  exact fin h2 (rawInt (t.place[i]+1:Nat)) (sb1.trans sb2) g2 (.plc _ hb hd (Z3 T (by rw[lC2];exact hpl)) hvs)
 |drw tp ps ht hp hvs=>
  have hv':=hv;rw[hvs,(Zv hp).2]at hv';obtain⟨p,hpp,hx0⟩:=lB3.mp hv';obtain⟨x,hx,rfl⟩:=lC1.mp hx0;show wpAny _ _ (seqItems? (.ref tp) >>= _) _ _ _
  refine lN9 (wpAny_seqItems ht rfl ?_)
  have e:((ps.map λ(p:Nat)=>rawInt p).toArray)[(i:Int).toNat]? =some (rawInt p):=by rw[lG2];simp[hpp]
  simp only[e];show wpAny _ _ (setNextDrawn a ((p:Int).toNat) ((ep:Int).toNat) >>= _) _ _ _
  rw[lG2,lG2];refine lN9 (Ux hs fit hx (lN9 (lF9 hi (by simp) λh1 g1 sb1=>?_)))
  exact fin h1 (.ref tp) sb1 g1 (.drw tp ps ht hp hvs)
theorem zE7(hh:A.handled=none)(T:Qs (!Od w) t)(fit:t.fits es.size=true)(W:zNV w a I es ep t vs tps vs.length s)(hQ:∀h',Heap.ExtBut I s.heap h'->Q none {s with heap:=h'}):wpAny (model prog w) A (pyNext (.ref I)) Q E s:=by
 obtain⟨first,hs,hi,F⟩:=W;have hlen:=F.len;have hT:s.TypeIs (.ref I) "set_iterator":=⟨_,hi,rfl⟩
 unfold pyNext;refine lN9 (wpAny_attempt (lB4 (name:=Str.ofString "__next__") hT Dw (lI8 Dw hT Kq ?_ (M7 _))))
 unfold Builtin.«set_iterator.__next__»
 refine lN9 (m:=slotArgs "__next__" 0 _) (lO1 ?_)
 refine lN9 (wpAny_fieldsOf hi rfl ?_)
 show wpAny _ _ (setEntries a >>= _) _ _ _
 refine lN9 (lN9 (m:=setState a) (lH5 hs rfl fit (lO1 ?_)))
 rw[lO5 (by simp)];have fin:∀(h1:Heap),Heap.SameBut I s.heap h1→wpAny (model prog w) A.in1 (newExc (.type "StopIteration") [] >>= λx=>raiseNew x:Sem Fin) (λfin s'=>∃v,fin=.done (.ret v)∧wpAny (model prog w) A (pure (some v)) Q E s') (λe s'=>wpAny (model prog w) A (do if ←isInstance e (.type "StopIteration")then pure none else throw e) Q E s') {s with heap:=h1}:=λh1 sb=>by
  refine lN9 ?_
  simp only[newExc,newTuple];refine lN9 (lH4 ?_ (by size_fits))
  refine lN9 (m:=firstArgMember _ _) (wpAny_of_eq (a:=Value.none) (by first|rfl|(simp only[firstArgMember];rfl)) ?_)
  refine lH4 ?_ (by size_fits)
  unfold raiseNew;refine lN9 (wpAny_handled ?_)
  rw[show A.in1.handled=none from hh]
  refine lN9 (lO1 (wpAny_throw ?_))
  refine lN9 (wpAny_isInstance (T:="StopIteration") (b:=true) ⟨_,lE1 _ rfl,rfl⟩ isSubtype_stop ?_)
  exact lO1 (hQ _ ((sb.extBut.push _).push _))
 cases F with
 |txt hb hvs=>
  show wpAny _ _ (setNext a 0 ((vs.length:Int).toNat) ((ep:Int).toNat) >>= _) _ _ _
  rw[lG2,lG2];refine lN9 (Np hs fit hb ?_)
  rw[Array.getElem?_eq_none (by rw[←lD9,(Gz es).length_eq,lD9,hlen];exact lN4 _)]
  exact lN9 (lF9 hi (by simp) λh1 g1 sb1=>fin h1 sb1)
 |plc j hb hd hj hvs=>
  show wpAny _ _ (setNext a ((j:Int).toNat) ((vs.length:Int).toNat) ((ep:Int).toNat) >>= _) _ _ _
  rw[lG2,lG2,lG2];refine lN9 (Nw hs fit hb (by rw[T.led,hb];rfl) hd ?_)
  rw[hj,Array.getElem?_eq_none (xs:=es) (by rw[hlen];exact lN4 _)]
  exact lN9 (lF9 hi (by simp) λh1 g1 sb1=>fin h1 sb1)
 |drw tp ps ht hp hvs=>
  show wpAny _ _ (seqItems? (.ref tp) >>= _) _ _ _
  refine lN9 (wpAny_seqItems ht rfl ?_)
  have e:((ps.map λ(p:Nat)=>rawInt p).toArray)[(vs.length:Int).toNat]? =none:=by
   rw[lG2];exact Array.getElem?_eq_none (by rw[lG7,lq6,hlen,hp.length_eq,lG4];exact lN4 _)
  simp only[e];exact lN9 (lF9 hi (by simp) λh1 g1 sb1=>lN9 (lF9 g1 (by simp) λh2 g2 sb2=>fin h2 (sb1.trans sb2)))
end
section
variable {prog:Program}{w:World}{A:Around}{E:Value->Shared->Prop}{s:Shared}
theorem zKD(h0:n≠0)(h:∀i d',i<n->Q i {s with drawn:=d'}):wpAny (model prog w) A (choose src n) Q E s:=fun Γ p hΓ=>by
 unfold choose;rw[Sem.wp_choose];exact⟨h0,h _ _ (Nat.mod_lt _ (lF7 h0))⟩
theorem zA2:∀(n:Nat) (xs:List Nat) (s:Shared) (Q:List Nat->Shared->Prop),xs.length=n->(∀ys d',ys.Perm xs->Q ys {s with drawn:=d'})->wpAny (model prog w) A (drawOrder n xs) Q E s
 |0,xs,s,Q,hl,h=>by
  rw[lA1 hl];exact lO1 (h [] s.drawn (by rw[lA1 hl]))
 |n+1,[],s,Q,hl,h=>by cases hl
 |n+1,x::xs,s,Q,hl,h=>by
  change wpAny _ _ (bind (choose _ _) _) _ _ _
  refine lN9 (zKD (by simp) λi d' hi=>?_)
  have e:=lA9 hi;rw[e];dsimp only;refine lN9 (zA2 n _ _ _ (by rw[List.length_eraseIdx_of_lt hi,hl];rfl) λys d2 hp=>lO1 (h _ d2 ((hp.cons _).trans (Q5 e))))
structure zBR (s s':Shared):Prop where
 heap:∀b o,s.heap.get? b=some o->s'.heap.get? b=some o
 size:s.heap.objs.size<=s'.heap.objs.size
 os:s'.os=s.os
 gens:s'.gens=s.gens
theorem zBR.trans(x:zBR a b)(y:zBR b c):zBR a c:=⟨λq o e=>y.heap q o (x.heap q o e),lM7 x.size y.size,y.os.trans x.os,y.gens.trans x.gens⟩
theorem zBR.push:zBR s {s with heap:=s.heap.push o,drawn:=d}:=⟨λ_ _ e=>lB6 _ e,by show _<=(s.heap.push o).objs.size;rw[lK7];exact lN5 _,rfl,rfl⟩
theorem Z6(T:Qs b t):SetTable.below t.place 0=0:=by
 have B:=Ml T.ris 0;rcases Nat.eq_zero_or_pos (SetTable.below t.place 0)with q|q
 ·exact q
 ·have hl:0<t.place.toList.length:=lF5 q B.le
  exact absurd (B.lo 0 _ (lA9 hl) q) (lJ9 _)
inductive zPF (w:World)(s:Shared)(a:Addr)(es:Array (Int×Value))(ep:Nat)(t:SetTable)(s':Shared)(I:Addr):Prop
 |mk (vs:List Value) (tps:List Addr) (k:zBR s s') (W:zNV w a I es ep t vs tps 0 s') (hI:s.heap.objs.size<=I) (hz:I<s'.heap.objs.size) (ht:∀b,b∈tps->b<I/\s.heap.objs.size<=b)
theorem zHT{a:Addr}{es:Array (Int×Value)}{ep:Nat}{t:SetTable}{Q:Value->Shared->Prop}(hs:s.heap.get? a=some (Io es ep t))(T:Qs (!Od w) t)(fit:t.fits es.size=true)(hz:es.size<=4096)
  (hQ:∀s' I,zPF w s a es ep t s' I->Q (.ref I) s'):wpAny (model prog w) A (pyIter (.ref a)) Q E s:=by
 have hT:s.TypeIs (.ref a) "set":=⟨_,hs,rfl⟩
 refine wpAny_pyIter_slot hT PySem.F.slot_set_iter (lI8 PySem.F.slot_set_iter hT Pe ?_ (PySem.F.args_set_iter_1 _))
 unfold Builtin.«frozenset.__iter__»
 refine lN9 (m:=Builtin.Frozenset.slot0 "__iter__" _) (lO1 ?_)
 refine lN9 (m:=Builtin.Frozenset.sizeOf a) (lN9 (lN9 (m:=setState a) (lH5 hs rfl fit (lO1 (lO1 ?_)))))
 refine lN9 (m:=setDrawn a) ?_
 unfold setDrawn;refine lN9 (lH5 hs rfl fit (lN9 (Ki (lO1 ?_))))
 have fin:∀(s1:Shared) (first:Value) (vs:List Value) (tps:List Addr),zBR s s1->Hm w a es ep t vs tps s1.heap 0 first->(∀b,b∈tps->b<s1.heap.objs.size/\s.heap.objs.size<=b)->
   wpAny (model prog w) A.in1 (do ret (←newFields "set_iterator" [first,rawInt 0,.ref a,rawInt es.size,rawInt (←setEpoch a)])) (λfin s'=>∃v,fin=.done (.ret v)∧∃T' r,s'.TypeIs v T'∧typeLookup (.type T') "__next__"=pure (some r)∧Q v s') E s1:=λs1 first vs tps k F ht=>by
  refine lN9 (wpAny_setEpoch_of (k.heap _ _ hs) rfl fit ?_)
  refine lN9 (lH4 (lO1 ⟨_,rfl,"set_iterator",_,⟨_,lE1 _ rfl,rfl⟩,Dw.lookup,hQ _ _ ⟨vs,tps,k.trans zBR.push,?_,k.size,by show _<(s1.heap.push _).objs.size;rw[lK7];exact lI5 _,ht⟩⟩))
  exact⟨first,lB6 _ (k.heap _ _ hs),lE1 _ rfl,F.mono λb _ o e=>lB6 _ e⟩
 have k0:zBR s s:=⟨λ_ _ e=>e,lN4 _,rfl,rfl⟩
 show wpAny _ _ (if(!Od w&&(!t.plain&&decide (es.size>1)))=true then _ else _) _ _ _
 by_cases hc:(!Od w&&(!t.plain&&decide (es.size>1)))=true
 ·rw[lO6 hc];refine lN9 (zA2 es.size (List.range es.size) s _ lG4 λys d' hp=>?_)
  have hl:(ys.map λ(i:Nat)=>rawInt i).length<=4096:=by rw[lq6,hp.length_eq,lG4];exact hz
  refine lN9 (lH4 ?_ (by show(List.toArray _).size<=sizeLine;rw[lG7,sizeLine_eq];exact lk hl rfl))
  refine fin _ (.ref s.heap.objs.size) _ [s.heap.objs.size] zBR.push (.drw _ ys (lE1 _ rfl) hp rfl) λb m=>?_
  rw[lq0 m];exact⟨by show _<(s.heap.push _).objs.size;rw[lK7];exact lI5 _,lN4 _⟩
 ·rw[lO5 hc];refine lN9 (lO1 ?_)
  cases hb:Od w with
  |true=>exact fin s (rawInt 0) _ [] k0 (.txt hb rfl) λ_ m=>nomatch m
  |false=>
   rw[hb]at hc;exact fin s (rawInt 0) _ [] k0 (.plc 0 hb (by simpa using hc) (Z6 T) rfl) λ_ m=>nomatch m
theorem zGl{a I:Addr}{es:Array (Int×Value)}{ep:Nat}{t:SetTable}{vs:List Value}{tps:List Addr}(hh:A.handled=none)(T:Qs (!Od w) t)(fit:t.fits es.size=true)(hne:I≠a)(hnt:I∉tps):
  WalksS prog w A I (I::a::tps) [I] Eq vs.length (λi v=>vs[i]? =some v) (zNV w a I es ep t vs tps) where
 sub b m:=by rw[lq0 m];exact lq1
 grefl _:=rfl
 gtrans _ _ _ x y:=x.trans y
 frame i s h' tk W _ k:=by
  obtain⟨first,hs,hi,F⟩:=W;exact⟨first,k a (lq4 _ lq1) _ hs,k I lq1 _ hi,F.mono λb m o e=>k b (lq4 _ (lq4 _ m)) o e⟩
 item i s Q E hi W hQ:=zAs T fit hne hnt W (lA9 hi) λh' sb W'=>hQ _ _ (lA9 hi) W' ⟨λb o nb e=>(sb.2 b λz=>nb (lF1.mpr z)).trans e,rfl,rfl,rfl,lN4 _⟩
 done s Q E W hQ:=zE7 hh T fit W λh' x=>hQ _ ⟨λb o nb e=>x b o (λz=>nb (lF1.mpr z)) e,rfl,rfl,rfl,lN4 _⟩
 self i s Q E W hQ:=by
  obtain⟨first,hs,hi,F⟩:=W;have hT:s.TypeIs (.ref I) "set_iterator":=⟨_,hi,rfl⟩
  exact wpAny_pyIter_slot hT Lk (lI8 Lk hT Qt (lN9 (m:=slotArgs "__iter__" 0 _) (lO1 (lO1 ⟨_,rfl,"set_iterator",_,hT,Dw.lookup,hQ⟩))) (Sg _))
theorem Vj{α:Type}{t:Sem α}{Q:α->Shared->Prop}(h:wpAny (model prog w) A t (λa s'=>s.heap.objs.size<=s'.heap.objs.size->Q a s') E s):wpAny (model prog w) A t Q E s:=
 lO0 (Lg h) (λ_ _ q=>q.2 q.1) λ_ _ q=>q.2
theorem Vc{a:Addr}{es:Array (Int×Value)}{ep:Nat}{t:SetTable}{Q:List Value->Shared->Prop}(hh:A.handled=none)(hs:s.heap.get? a=some (Io es ep t))(T:Qs (!Od w) t)(fit:t.fits es.size=true)(hz:es.size<=4096)
  (hQ:∀s' vs,zBR s s'->vs.Perm (es.toList.map (·.2))->Q vs s'):wpAny (model prog w) A (collect (.ref a)) Q E s:=by
 refine Vj ?_
 unfold collect;refine lN9 (wpAny_runValue (lK5 PySem.F.entry_proto_collect ?_))
 rw[lD0 PySem.F.plain_proto_collect _];show wpAny _ A.in1 (newList [] >>= λl=>again (.builtin "list.__iadd__" ⟨[l,.ref a],[]⟩)) _ _ s
 refine lN9 (lH4 ?_)
 refine lO1 ⟨plainId_quiet PySem.F.plain_list_iadd _,lK5 PySem.F.entry_list_iadd ?_⟩
 rw[lD0 PySem.F.plain_list_iadd _];have haS:s.heap.objs.size≠a:=λz=>lL7 _ (z▸lM0 hs:s.heap.objs.size<s.heap.objs.size)
 have hs1:(s.heap.push {cls:=.type "list",data:=.seq ([]:List Value).toArray}).get? a=some (Io es ep t):=lB6 _ hs
 have hS1:(s.heap.push {cls:=.type "list",data:=.seq ([]:List Value).toArray}).get? s.heap.objs.size=some {cls:=.type "list",data:=.seq ([]:List Value).toArray}:=lE1 _ rfl
 have hz1:(s.heap.push {cls:=.type "list",data:=.seq ([]:List Value).toArray}).objs.size=s.heap.objs.size+1:=lK7 ..
 have k1:∀b o,s.heap.get? b=some o→(s.heap.push {cls:=.type "list",data:=.seq ([]:List Value).toArray}).get? b=some o:=λb o e=>lB6 _ e
 generalize hp1:s.heap.push {cls:=.type "list",data:=.seq ([]:List Value).toArray}=h1 at hs1 hS1 hz1 k1
 show wpAny _ A.in1 (Builtin.List.listExtendWith (.ref s.heap.objs.size) (.ref a) (.ref s.heap.objs.size)) _ _ {s with heap:=h1}
 unfold Builtin.List.listExtendWith;refine lN9 (wpAny_typeOf (s:={s with heap:=h1}) (T:="set") ⟨_,hs1,rfl⟩ ?_)
 have e1:Builtin.List.listSameRef (.ref s.heap.objs.size) (.ref a)=false:=by simp[Builtin.List.listSameRef,haS]
 have e2:(Value.type "set"==Value.type "list")=false:=by decide
 have e3:(Value.type "set"==Value.type "tuple")=false:=by decide
 simp only[e1,e2,e3,Bool.or_false,lE6,lO3];refine lN9 (zHT (s:={s with heap:=h1}) hs1 T fit hz λs2 I it=>?_)
 obtain⟨vs,tps,k2,W,hI,hz2,ht⟩:=it;have hI':s.heap.objs.size+1<=I:=by rw[←hz1];exact hI
 have hs2:=k2.heap _ _ hs1;have hS2:=k2.heap _ _ hS1;refine lN9 (lL8 ?_)
 have hint:∀(Q':Bool->Shared->Prop) (E':Value->Shared->Prop),Q' false s2->wpAny (model prog w) A.in1 (Builtin.List.listLengthHint (.ref a)) Q' E' s2:=λQ' E' q=>by
  unfold Builtin.List.listLengthHint;refine lN9 (wpAny_specialOf (T:="set") ⟨_,hs2,rfl⟩ PySem.F.slot_set_len.lookup ?_)
  (generalize hid:("set.__len__":String)=id0;(fail_if_success (clear hid id0));wp_delta;rw[show splitId id0=some ("set","__len__")from by subst hid;decide+kernel];subst hid)
  refine lN9 (wpAny_isInstance (T:="set") (b:=true) ⟨_,hs2,rfl⟩ (by rw[lL2];kernel_rfl) ?_)
  rw[lO5 (by decide)];dsimp only;rw[lO6 (by decide+kernel)];exact lN9 (wpAny_typeOf (T:="set") ⟨_,hs2,rfl⟩ (lO1 q))
 refine hint _ _ ?_
 rw[lO6 (by decide+kernel)];refine lN9 (wpAny_rule (lN9 ?_))
 show wpAny _ A.in1 (updateSeq s.heap.objs.size (·.push .none) >>= λ_=>updateSeq s.heap.objs.size (·.pop)) _ _ _
 refine lN9 (wpAny_updateSeq hS2 rfl ?_)
 have g3:=Heap.get?_update_self (Obj.mapSeq (·.push Value.none)) hS2 rfl;refine wpAny_updateSeq g3 rfl ?_
 have g4:=Heap.get?_update_self (Obj.mapSeq (·.pop)) g3 rfl;have nS:∀b,b∈I::a::tps->s.heap.objs.size≠b:=λb m=>by
  rcases lL5.mp m with rfl|m
  ·exact lN0 hI'
  rcases lL5.mp m with rfl|m
  ·exact haS
  ·have h3:h1.objs.size<=b:=(ht b m).2
   rw[hz1]at h3;exact lN0 h3
 have hI0:I≠a:=λz=>by
  have:=lM0 hs
  rw[←z]at this;exact absurd this (lN7.mpr (Nat.le_of_succ_le hI'))
 have X:=zGl (prog:=prog) (w:=w) (A:=A.in1) (ep:=ep) (vs:=vs) (tps:=tps) (a:=a) (I:=I) (show A.in1.handled=none from hh) T fit hI0 λm=>lL7 _ (ht I m).1
 have up:∀b o,s.heap.objs.size≠b->s2.heap.get? b=some o->((s2.heap.update s.heap.objs.size (Obj.mapSeq (·.push Value.none))).update s.heap.objs.size (Obj.mapSeq (·.pop))).get? b=some o:=λb o nb e=>(lB7 _ _ nb).trans ((lB7 _ _ nb).trans e)
 have W3:=X.frame 0 s2 _ s2.toks W (lN4 _) λb m o e=>up b o (nS b m) e
 obtain⟨f0,_,_,F0⟩:=W;have hlen:=F0.len;have hn:vs.length<=sizeLine:=by rw[hlen,sizeLine_eq];exact lk hz rfl
 refine lO1 ⟨plainId_quiet PySem.F.plain_extend_loop _,codeAny_extend_loopS X hn _ (λm=>nS _ m rfl) _ vs.length 0 _ #[] _ rfl (lq5 _) W3 g4 (ItemsOf.nil _) λs' acc c hm hS' hacc=>?_⟩
 show wpAny _ A (load s.heap.objs.size >>= _) _ _ s'
 refine lN9 (wpAny_load hS' (lO1 λhsz=>hQ s' acc.toList ⟨λb o e=>?_,hsz,hm.os.trans k2.os,hm.gens.symm.trans k2.gens⟩ ?_))
 ·have hb:=lM0 e;refine hm.heap b o (λm=>?_) (up b o (Nat.ne_of_gt hb) (k2.heap b o (k1 b o e)))
  rcases lL5.mp m with rfl|m
  ·exact lL7 _ hb
  ·rw[lq0 m]at hb;exact absurd hb (lN7.mpr (Nat.le_of_succ_le hI'))
 ·have e:acc.toList=vs:=by
   refine List.ext_getElem? λj=>?_
   cases q:acc.toList[j]? with
   |none=>
    have:vs.length<=j:=by
     have:=List.getElem?_eq_none_iff.mp q
     rw[lD9,hacc.1]at this;exact this
    exact(List.getElem?_eq_none this).symm
   |some v=>exact(hacc.2 j v (by rw[←lC2];exact q)).symm
  rw[e];exact F0.perm
theorem Dc.are(h:Dc vs ns):IntsAre vs ns:=by
 induction h with
 |nil=>exact .nil
 |cons x _ ih=>obtain⟨t,rfl⟩:=x;exact .cons _ _ ih
set_option maxHeartbeats 2000000 in
theorem Xd{a:Addr}{ks:List Int}{Q:Value->Shared->Prop}(hh:A.handled=none)(hS:Ql prog w s.heap a ks)(hl:ks.length<64)
  (h:∀s' b out n ns',zBR s s'→s.heap.objs.size≤b→s'.heap.get? b=some (E5 out n)→IntsAre out.toList ns'→ns'.Perm ks→ns'.Pairwise (· ≤ ·)→Q (.ref b) s'):wpAny (model prog w) A (call (.builtin "sorted") [.ref a]) Q E s:=by
 obtain⟨es,ep,t,ho,T,fit,el,ns,hn,hp⟩:=hS;have hsz:es.size=ks.length:=by
  have h1:=Bs.length hn;rw[lq6,lD9]at h1;rw[h1,hp.length_eq]
 refine Calls.call_function_entry kind_sorted plain_sorted entry_sorted (args_sorted1 _) ?_
 unfold Builtin.«sorted»
 refine lN9 (m:=checkCount "sorted" 1 1 _) (lO1 ?_)
 refine lN9 (Vc (A:=A.in1) hh ho T fit (by exact Cp (Ac x0 (.n 4096)) [Ae x1 (.n 64),eq1 x0 x1] rT hl hsz) λs1 vs k1 pv=>?_)
 obtain⟨ns1,hn1,hp1⟩:∃ns1,Dc vs ns1/\ns1.Perm ns:=by
  obtain⟨m,hm,ha⟩:=Bs.perm (R:=λv n=>∃t,v=Value.int n t) pv (m:=ns) hn
  exact⟨m,ha,hm⟩
 have hI:=hn1.are;have hvl:vs.length<64:=by rw[pv.length_eq,lq6,lD9,hsz];exact hl
 refine lN9 (wpAny_newList ?_)
 have hoL:(s1.heap.push (seqObj "list" vs.toArray 0)).get? s1.heap.objs.size=some (seqObj "list" vs.toArray 0):=lE1 _ rfl
 refine Vj ?_
 refine lN9 (lL8 (lI8 slot_list_sort ⟨_,hoL,rfl⟩ entry_list_sort (list_sort_tree hoL hI hvl λout ns' a1 a2 a3=>⟨_,rfl,?_⟩) (args_list_sort _)))
 refine lO1 λhz=>⟨_,rfl,?_⟩
 obtain⟨e,he⟩:=sortedHeap_at (out:=out) hoL
 have z2:(s1.heap.push (seqObj "list" vs.toArray 0)).objs.size=s1.heap.objs.size+1:=lK7 ..
 refine h _ s1.heap.objs.size out e ns' (k1.trans ⟨λb o hb=>?_,lM7 (by show _≤(s1.heap.push (seqObj "list" vs.toArray 0)).objs.size;rw[z2];exact lN5 _) hz,rfl,rfl⟩) k1.size he a1 ((a2.trans hp1).trans hp) a3
 have hlt:=lM0 hb;exact(sortedHeap_old (lN0 hlt) (by rw[z2];exact lH0 hlt)).trans (lB6 _ hb)
end
noncomputable def zAW (l:List Int):List Int:=l.mergeSort λa b=>decide (a<=b)
noncomputable def Ht:D->Mn D:=zEM λk=>Ge k λds=>optB (Dz ds) λns=>if ns.length+1<4096/\(Dq ns).length<64 then Ep ((zAW (Dq ns)).map D.int)else botM
theorem Xr(h:ks.Nodup):(N7 ks k).Nodup:=by
 unfold N7;by_cases q:ks.contains k=true
 ·rw[lO6 q];exact h
 ·rw[lO5 q];refine lG5.mpr ⟨h,by simp,λa ma b mb e=>?_⟩
  rw[lq0 mb]at e;exact q (lC3.mpr (e▸ma))
theorem O7{l:List Int}:∀{ks:List Int},ks.Nodup->(l.foldl N7 ks).Nodup:=by
 induction l with
 |nil=>exactλh=>h
 |cons a l ih=>exactλh=>ih (Xr h)
theorem Tr(l:List Int):(zAW l).Pairwise (· <= ·):=by
 have:=List.pairwise_mergeSort (le:=λa b:Int=>decide (a<=b)) (λa b c h1 h2=>by simp at h1 h2 ⊢; exact lM2 h1 h2) (λa b=>by simp;lia) l
 exact this.imp λh=>lH3 h
theorem Os(hp:m.Perm l)(hs:m.Pairwise (· <= ·))(hn:l.Nodup):m=zAW l:=
 Fj (f:=id) (hp.trans (List.mergeSort_perm l _).symm) hs (Tr l) (by rw[List.map_id];exact(List.mergeSort_perm l _).nodup_iff.mpr hn)
section
variable {G:Gd}{C:Cx}{F:Fr G C}{A:Around}{P:List Addr}{s:Shared}{ρ:List Addr}{σ:C3}{st:St}
theorem Dg.sh(I:Dg G s ρ σ)(e1:s'.heap=s.heap)(e2:s'.os=s.os)(e3:s'.gens=s.gens):Dg G s' ρ σ:=
 ⟨λb o e=>e1▸I.base b o e,I.new,I.nodup,I.len,λk a o h1 h2=>e1▸I.sto k a o h1 h2,e2.trans I.os,e3.trans I.gens⟩
theorem zFH(x:IntsAre vs ns):Ay G h ρ (ns.map D.int) vs:=by
 induction x with
 |nil=>exact rfl
 |cons n t _ ih=>exact⟨_,_,rfl,⟨t,rfl⟩,ih⟩
theorem Xg{e:Expr}{m:Mn D}{sp np ip pos:Pos}(hs:Dj G (Str.ofString "sorted") (.builtin "sorted"))(ht:Dj G (Str.ofString "set") (.type "set"))(hsn:C.names.lookup (Str.ofString "sorted")=some .globalImplicit)(htn:C.names.lookup (Str.ofString "set")=some .globalImplicit)
  (he:SE G C e m) (hst:∀env,starEach [e] env=[(false,eval e env)]):SE G C (.Call (.Name (Str.ofString "sorted") sp) [.Call (.Name (Str.ofString "set") np) [e] [] ip] [] pos) (Af m Ht):=.mk <| λF s ρ st K d st' Q E hm kk=>Bk hm λdx st1 e1 e2=>by
 refine lN9 (Ei K hs hsn (by decide) ?_)
 refine lB5 rfl (lD2 (lE7 ?_))
 refine lN9 (m:=eval (.Name (Str.ofString "set") np) F.env) (Ei K ht htn (by decide) ?_)
 rw[hst];refine PySem.callWith_type rfl (lD2 (lE7 (he.run F s ρ st K dx st1 _ _ e1 λv s1 ρ1 K1 x1 r1=>Calls.spliced_nil ?_)))
 cases dx with
 |ref k=>
  obtain⟨a,rfl,hk⟩:=r1;refine Fk e2 λds hds e2=>Ig e2 λns hns e2=>Ft e2 λhc e2=>Gb K1.inv hk hds λvs n hl rr=>?_
  cases e2;have hh:=K1.room.hd;refine zEs hh (H0 hl) (Lw hns rr) hc.1 λh' tk hS hkeep=>Calls.spliced_nil ?_
  have hz:s1.heap.objs.size<h'.objs.size:=by obtain⟨es,ep,t,ho,_⟩:=hS;exact lM0 ho
  refine Xd (s:={s1 with heap:=h',toks:=tk}) hh hS hc.2 λs' b out n' ns' kp hb hat hI hp hsrt=>?_
  have hu:=Os hp hsrt (O7 List.nodup_nil);subst hu;have g:Ci s1.heap s'.heap:=λq o e=>kp.heap q o (hkeep q o e)
  have z:s1.heap.objs.size<=s'.heap.objs.size:=lM7 (lM6 hz) kp.size
  have hb':s1.heap.objs.size<=b:=lM7 (lM6 hz) hb
  have I':Dg G s' ρ1 st1.sto:=(K1.inv.grow g z s'.toks).sh rfl kp.os kp.gens
  have x':Ev [] s1.heap ρ1 s'.heap ρ1:=g.ev z
  have nb:=F9 (hs:=s1.heap) K1.inv (q:=b) hb';obtain⟨I2,S2⟩:=I'.adopt (q:=b) (p:=.list ((zAW (Dq ns)).map D.int)) nb.1 nb.2 (λo ho=>by rw[hat]at ho;cases ho;simp) (λS=>⟨out,⟨n',hat⟩,zFH hI⟩) s'.toks
  exact kk _ _ (ρ1++[b]) (K1.step I2 (Eo x' hb')) (x1.trans (Eo x' hb')) ⟨b,rfl,by rw[←K1.inv.len];simp⟩
 |_=>exact Bv e2
noncomputable def zIV (x:Str)(e:Expr):Bool:=match Iq e with
 |some y=>y==x
 |none=>false
theorem Zi(h:zIV x e=true):∃p,e=.Name x p:=by
 unfold zIV at h
 cases q:Iq e with
 |some y=>rw[q]at h;rw[←show y=x from lN8.mp h];exact Lp q
 |none=>rw[q]at h;cases h
noncomputable def zJF (X:zCU)(C:Cx)(e:Expr):Option (Mn D):=ob (Ox e) λp=>gd (zIV (Str.ofString "sorted") p.1&&p.2.1.length==1&&p.2.2.isEmpty&&Ix C (Str.ofString "sorted")&&Ix C (Str.ofString "set")) (ob p.2.1.head? λa=>ob (Ox a) λq=>gd (zIV (Str.ofString "set") q.1&&q.2.1.length==1&&q.2.2.isEmpty) (ob q.2.1.head? λb=>gd (Cl b) (ob (X.e C b) λm=>some (Af m Ht))))
theorem zFL(hs:Dj G (Str.ofString "sorted") (.builtin "sorted"))(ht:Dj G (Str.ofString "set") (.type "set")):∀X C e m,Cm G X→zJF X C e=some m→SE G C e m:=λX C e m hX h=>by
 refine Au h λp hp h=>C4 h λhc h=>Au h λa ha h=>Au h λq hq h=>C4 h λhd h=>Au h λb hb h=>C4 h λhn h=>Au h λmb hm h=>Am (P:=SE G C _) h ?_
 obtain⟨f,as,ks⟩:=p;obtain⟨f2,as2,ks2⟩:=q;obtain⟨pos,rfl⟩:=Tl hp;obtain⟨ip,rfl⟩:=Tl hq;refine B9 hc λhc c5=>B9 hc λhc c4=>B9 hc λhc c3=>B9 hc λc1 c2=>B9 hd λhd d3=>B9 hd λd1 d2=>?_
 obtain⟨sp,rfl⟩:=Zi c1;obtain⟨np,rfl⟩:=Zi d1;obtain⟨a',rfl⟩:=lB9.mp (lN8.mp c2);obtain⟨b',rfl⟩:=lB9.mp (lN8.mp d2);obtain rfl:=lK2 ha;obtain rfl:=lK2 hb;dsimp only at c3 d3 ⊢;rw[Dp c3,Dp d3];exact Xg hs ht (Do c4) (Do c5) (hX.e _ _ _ hm) λenv=>by rw[D0 hn];rfl
noncomputable def zJt (a b:zCU->Cx->Expr->Option (Mn D))(X:zCU)(C:Cx)(e:Expr):Option (Mn D):=match a X C e with
 |some m=>some m
 |none=>b X C e
theorem zHr(ha:∀X C e m,Cm G X->a X C e=some m->SE G C e m)(hb:∀X C e m,Cm G X->b X C e=some m->SE G C e m):∀X C e m,Cm G X->zJt a b X C e=some m->SE G C e m:=λX C e m hX h=>by
 unfold zJt at h
 cases q:a X C e with
 |some m'=>rw[q]at h;cases h;exact ha X C e _ hX q
 |none=>rw[q]at h;exact hb X C e m hX h
end
section
open Builtin.Str
noncomputable def W {α:Type}(m:Mn α)(st:St)(Q:α->St->Prop):Prop:=∃a st',m st=.ok a st'/\Q a st'
structure zOW (a b:Prop):Prop where
 mpr:b->a
section
variable {α β:Type}{st:St}{Q:α->St->Prop}
theorem W.mono(h:W m st Q)(hq:∀a st',Q a st'->Q' a st'):W m st Q':=by obtain⟨a,st',e,q⟩:=h;exact⟨a,st',e,hq a st' q⟩
theorem Hr:W (Af m f) st Q↔W m st (λb st'=>W (f b) st' Q):=by
 unfold W Af;constructor
 ·rintro⟨a,st',e,q⟩
  cases h:m st with
  |ok b st''=>rw[h]at e;exact⟨b,st'',rfl,a,st',e,q⟩
  |bot=>rw[h]at e;cases e
 ·intro h0z;apply yo;intro _ k0
  obtain⟨b,st'',h,a,st',e,q⟩:=h0z;apply k0
  exact⟨a,st',by rw[h];exact e,q⟩
theorem Ch:W (A8 a) st Q↔Q a st:=by
 constructor
 ·rintro⟨b,st',e,q⟩;cases e;exact q
 ·intro q;exact⟨a,st,rfl,q⟩
theorem zFn:W (botM:Mn α) st Q↔False:=by
 constructor
 ·rintro⟨b,st',e,q⟩;cases e
 ·exact False.elim
theorem zCt:W (Yv o) st Q↔∃a,o=some a/\Q a st:=by
 cases o with
 |none=>exact⟨λh=>absurd h (zFn.mp),λ⟨a,e,_⟩=>by cases e⟩
 |some a=>exact⟨λh=>⟨a,rfl,Ch.mp h⟩,λ⟨b,e,q⟩=>by cases e;exact Ch.mpr q⟩
theorem Es{c:Prop}[Decidable c]:W (if c then m else botM) st Q↔c/\W m st Q:=by
 by_cases h:c
 ·simp[h]
 ·simp[h,zFn]
end
section
variable {st:St}
noncomputable def zN3 (m2:Mn Fl)(Q:Fl->St->Prop):Fl->St->Prop
 |.next,st'=>W m2 st' Q
 |.brk,st'=>Q .brk st'
 |.cont,st'=>Q .cont st'
 |.ret d,st'=>Q (.ret d) st'
theorem Tt:W (Ag m1 m2) st Q↔W m1 st (zN3 m2 Q):=by
 unfold Ag;rw[Hr];constructor
 ·intro h;refine h.mono λfl st' q=>?_
  cases fl<;>first|exact q|exact(show Q _ _ from Ch.mp (show W (A8 _) _ _ from q))
 ·intro h;refine h.mono λfl st' q=>?_
  cases fl<;>first|exact q|exact(show W (A8 _) _ _ from Ch.mpr (show Q _ _ from q))
theorem Wd:W (Ex c m1 m2) st Q↔W c st (λb st'=>if b=true then W m1 st' Q else W m2 st' Q):=by
 unfold Ex;rw[Hr];constructor<;>intro h<;>refine h.mono λb st' q=>?_<;>cases b<;>exact q
theorem Kn:W (B5 (.bool b)) st Q↔Q b st:=by unfold B5;exact Ch
theorem zKY:W (Oa m n) st Q↔W m st (λb st'=>if b=true then W n st' Q else Q false st'):=by
 unfold Oa;rw[Hr];constructor<;>intro h<;>refine h.mono λb st' q=>?_<;>cases b<;>first|exact q|exact Ch.mp q|exact Ch.mpr q
theorem zNM:W (Ms m n) st Q↔W m st (λb st'=>if b=true then Q true st' else W n st' Q):=by
 unfold Ms;rw[Hr];constructor<;>intro h<;>refine h.mono λb st' q=>?_<;>cases b<;>first|exact q|exact Ch.mp q|exact Ch.mpr q
theorem zJm:W (L8 m n) st Q↔W m st (λd st'=>W (B5 d) st' λb st''=>if b=true then W n st'' Q else Q d st''):=by
 unfold L8;rw[Hr];simp only[Hr];constructor<;>intro h<;>refine h.mono λd st' q=>q.mono λb st'' q=>?_<;>cases b<;>first|exact q|exact Ch.mp q|exact Ch.mpr q
variable {a b:Int}{x y:Str}{Q:D->St->Prop}
theorem zMQ:W (Hl T d) st Q↔∃T',zLq d st.sto=some T'/\Q (.bool (Ld T' T)) st:=by
 unfold W Hl
 cases e:zLq d st.sto with
 |none=>simp
 |some T'=>
  constructor
  ·rintro⟨a,st',e,q⟩;cases e;exact⟨_,rfl,q⟩
  ·rintro⟨T'',e,q⟩;cases e;exact⟨_,_,rfl,q⟩
theorem zL7:W (Cf [.str x]) st Q↔x.length<2 ^ 62/\Q (.int x.length) st:=Es.trans (lK3 λ_=>Ch)
theorem zLa:W (Cf [.scr ns]) st Q↔ns.length<2 ^ 62/\Q (.int ns.length) st:=Es.trans (lK3 λ_=>Ch)
theorem Bf{α:Type}{k:Nat}{f:List D->Mn α}{ds:List D}(h:st.sto[k]? =some (.list ds)):Ge k f st=f ds st:=by
 unfold Ge;rw[h];rfl
theorem Jn{α:Type}{k:Nat}{f:List (List Int)->Mn α}{ks:List (List Int)}(h:st.sto[k]? =some (.dict ks)):zEA k f st=f ks st:=by
 unfold zEA;rw[h];rfl
theorem E6{k:Nat}{ds:List D}(h:st.sto[k]? =some (.list ds))(h2:ds.length<2 ^ 62):Cf [.ref k] st=.ok (.int ds.length) st:=by
 show zIL k st.sto[k]? st=_
 rw[h];exact(Bf h).trans (C8 h2)
theorem J7{n:Int}{Q:Js->St->Prop}:W (Cj [.int n]) st Q↔Tz n=true/\Q ⟨Ez 0 1 n.toNat,λ_=>True⟩ st:=by
 show W (if Tz n=true then A8 _ else botM) st Q↔_
 rw[Es,Ch]
theorem Wj{Q:Js->St->Prop}:W (Cj [.int a,.int b]) st Q↔(Tz a&&Tz b)=true/\Q ⟨Ez a 1 (b - a).toNat,λ_=>True⟩ st:=by
 show W (if(Tz a&&Tz b)=true then A8 _ else botM) st Q↔_
 rw[Es,Ch]
theorem W5:W (Ep ds) st Q↔Q (.ref st.sto.length) ⟨st.loc,st.sto++[.list ds]⟩:=by
 constructor
 ·rintro⟨b,st',e,q⟩;cases e;exact q
 ·intro q;exact⟨_,_,rfl,q⟩
theorem zG2:W (Mx x [.str y]) st Q↔((y.length==0)=false/\x.length<=sizeLine/\(partsBetween x (occurrences x y 0 x.length (x.length+1)) y.length).length<=sizeLine)/\Q (.ref st.sto.length) ⟨st.loc,st.sto++[.list ((Txt.split x y).map D.str)]⟩:=Es.trans (lK3 λ_=>W5)
theorem zCb:W (Aj (.scr ns) (.int i)) st Q↔(0<=i/\i<2 ^ 63)/\∃n,ns[i.toNat]? =some n/\Q (.int n) st:=by
 refine Es.trans (lK3 λ_=>zCt.trans ?_)
 simp only[lC1];constructor
 ·rintro⟨d,⟨n,e,rfl⟩,q⟩;exact⟨n,e,q⟩
 ·rintro⟨n,e,q⟩;exact⟨.int n,⟨n,e,rfl⟩,q⟩
theorem zEP{i:Int}(h0:0<=i)(h1:i<x.length)(h2:x.length<=2 ^ 62):W (Aj (.str x) (.int i)) st Q↔Q (.str ⟨#[x.cps[i.toNat]'(by show i.toNat<x.length;exact Jf (lE8 (Int.le_of_eq (D5 (h0))) h1))]⟩) st:=by
 have hi:Gs i=true:=Ea.mpr ⟨by exact H6 (Ac (.s (.n 0) (.n 9223372036854775808)) x0) [Ac (.n 0) x0] rT h0,by exact Vt (Ae x0 (.n 9223372036854775808)) [Ae x0 x1,Ac x1 (.n 4611686018427387904)] rT h1 (Cc h2)⟩
 have hlt:i.toNat<x.cps.size:=by exact Jf (lE8 (Int.le_of_eq (D5 (h0))) h1)
 refine Es.trans ?_
 rw[zCt,StrLaws.seqIndex_nonneg h0 h1];simp only[Option.bind_some,Array.getElem?_eq_getElem hlt,lK1,hi,true_and];constructor
 ·rintro⟨d,e,q⟩;cases e;exact q
 ·intro q;exact⟨_,rfl,q⟩
end
theorem zKh:Be loc i d j=bif j==i then some d else loc j:=by
 unfold Be;by_cases h:j=i
 ·simp[h]
 ·rw[lO5 h,beq_false_of_ne h];rfl
theorem Bu{ps:List Nat}{body:Mn Fl}{ds:List D}{st:St}{Q:D->St->Prop}(hl:ds.length=ps.length)(h:W body ⟨Dk Br ps ds,st.sto⟩ (λfl st'=>Q (zFg fl) ⟨st.loc,st'.sto⟩)):
  W (D2 ps body ds) st Q:=by
 obtain⟨fl,st',e,q⟩:=h;unfold W D2;rw[lO6 hl,e];exact⟨_,_,rfl,q⟩
noncomputable abbrev zKN (J:St->Prop)(Q:Fl->St->Prop):Fl->St->Prop:=λfl st'=>match fl with
 |.next=>J st'
 |.cont=>J st'
 |.brk=>Q .next st'
 |.ret d=>Q (.ret d) st'
theorem N9{tgt:D->Bm->Option Bm}{g:C3->Prop}{body:Mn Fl}{d:D}{rest:List D}{st st1:St}{loc':Bm}{fl:Fl}(h1:g st.sto)(h2:tgt d st.loc=some loc')(e:body ⟨loc',st.sto⟩=.ok fl st1):By tgt g body (d::rest) st=zMV (By tgt g body rest) fl st1:=by
 rw[Ze,lO6 h1,h2];show Af body _ _=_
 unfold Af;rw[e]
theorem E2{α:Type}{e:α->D}{tgt:D->Bm->Option Bm}{g:C3->Prop}{body:Mn Fl}{Q:Fl->St->Prop}{xs:List α}(I:List α->St->Prop)(hg:∀dn st,I dn st->g st.sto)(hstep:∀dn a rest st,xs=dn++a::rest->I dn st->∃loc',tgt (e a) st.loc=some loc'/\W body ⟨loc',st.sto⟩ (zKN (I (dn++[a])) Q))
  (hend:∀st,I xs st->Q .next st){st:St}(h0:I [] st):W (By tgt g body (xs.map e)) st Q:=by
 have go:∀(r dn:List α) (st:St),xs=dn++r->I dn st->W (By tgt g body (r.map e)) st Q:=by
  intro r
  induction r with
  |nil=>
   intro dn st hx h;rw[lJ0]at hx;exact⟨.next,st,by rw[List.map_nil,Tq,lO6 (hg dn st h)],hend st (hx▸h)⟩
  |cons a r ih=>
   intro dn st hx h;obtain⟨loc',h2,fl,st',e1,q⟩:=hstep dn a r st hx h;have e2:=N9 (rest:=r.map e) (hg dn st h) h2 e1;have hx':xs=(dn++[a])++r:=by rw[hx,lq8];rfl
   cases fl with
   |next=>obtain⟨fl',st'',e',q'⟩:=ih _ st' hx' q;exact⟨fl',st'',e2.trans e',q'⟩
   |cont=>obtain⟨fl',st'',e',q'⟩:=ih _ st' hx' q;exact⟨fl',st'',e2.trans e',q'⟩
   |brk=>exact⟨_,_,e2,q⟩
   |ret d=>exact⟨_,_,e2,q⟩
 exact go xs [] st rfl h0
noncomputable def Cq (σ σ':C3):Prop:=∃j,σ'=σ++j
theorem Cq.refl(σ:C3):Cq σ σ:=⟨[],by simp⟩
theorem Cq.trans(x:Cq a b)(y:Cq b c):Cq a c:=by
 obtain⟨j,rfl⟩:=x;obtain⟨k,rfl⟩:=y;exact⟨j++k,by simp⟩
theorem Cq.get{a b:C3}(x:Cq a b){k:Nat}{o:PO}(e:a[k]? =some o):b[k]? =some o:=by
 obtain⟨j,rfl⟩:=x;rw[lA6 (lq2 e).1];exact e
theorem Cq.app(σ j:C3):Cq σ (σ++j):=⟨j,rfl⟩
theorem Cq.len(x:Cq a b):a.length<=b.length:=by obtain⟨j,rfl⟩:=x;simp
inductive zOy (tgt:D->Bm->Option Bm)(g:C3->Prop)(mt:Mn Bool)(me:Mn D)(keep:D->Bool)(V:D->D->C3->Prop)(A:Bm->Prop)(ds acc:List D)(loc:Bm)(σ:C3):Prop
 |mk (xs:List D) (loc':Bm) (σ':C3) (e:Dm tgt g mt me ds acc ⟨loc,σ⟩=.ok (acc++xs) ⟨loc',σ'⟩) (a:A loc') (x:Cq σ σ') (r:Bs (λx d=>V d x σ') xs (ds.filter keep))
theorem zBB{tgt:D->Bm->Option Bm}{g:C3->Prop}{mt:Mn Bool}{me:Mn D}(keep:D->Bool)(V:D->D->C3->Prop)(A:Bm->Prop){σ₀:C3}(hV:∀d x σ σ',Cq σ σ'->V d x σ->V d x σ')(hg:∀σ,Cq σ₀ σ->g σ)(ds:List D):
  ∀(acc:List D) (loc:Bm) (σ:C3),(∀d,d∈ds->∀loc σ,A loc->Cq σ₀ σ->∃loc',tgt d loc=some loc'/\A loc'/\W mt ⟨loc',σ⟩ (λb st'=>b=keep d/\st'.loc=loc'/\Cq σ st'.sto/\(b=true->W me st' (λx st''=>st''.loc=loc'/\Cq st'.sto st''.sto/\V d x st''.sto))))->
   A loc->Cq σ₀ σ->zOy tgt g mt me keep V A ds acc loc σ:=by
 induction ds with
 |nil=>exactλacc loc σ _ hA hx=>⟨[],loc,σ,by rw[Mc,lO6 (hg σ hx),lJ0],hA,.refl _,.nil⟩
 |cons d rest ih=>
  intro acc loc σ h hA hx;obtain⟨loc',e1,hA',b,⟨l2,σ2⟩,e2,rfl,hl,hx',he⟩:=h d lq1 loc σ hA hx
  cases hl;have hrest:=λd' m=>h d' (lq4 _ m)
  have st:∀r,(bif keep d then Af me λx=>Dm tgt g mt me rest (acc++[x])else Dm tgt g mt me rest acc) ⟨l2,σ2⟩=r->Dm tgt g mt me (d::rest) acc ⟨loc,σ⟩=r:=λr e=>by
   rw[Lo,lO6 (hg σ hx),e1];show Af mt _ _=_
   unfold Af at e ⊢;rw[e2];exact e
  cases hk:keep d with
  |false=>
   rw[hk]at st;obtain⟨xs,l3,σ3,e3,hA3,hx3,r⟩:=ih acc l2 σ2 hrest hA' (hx.trans hx');exact⟨xs,l3,σ3,st _ e3,hA3,hx'.trans hx3,by simp only[List.filter,hk];exact r⟩
  |true=>
   rw[hk]at st;obtain⟨x,⟨l3,σ3⟩,e3,hl3,hx3,hv⟩:=he hk;have hl4:l3=l2:=hl3
   subst hl4;obtain⟨xs,l4,σ4,e4,hA4,hx4,r⟩:=ih (acc++[x]) l3 σ3 hrest hA' ((hx.trans hx').trans hx3)
   refine⟨x::xs,l4,σ4,st _ ?_,hA4,(hx'.trans hx3).trans hx4,?_⟩
   ·show Af me _ _=_
    unfold Af;rw[e3];simpa using e4
   ·simp only[List.filter,hk];exact .cons (hV _ _ _ _ hx4 hv) r
theorem U1{cls:List Nat}{tgt:D->Bm->Option Bm}{mt:Mn Bool}{me:Mn D}{src:Js}{st:St}{Q:D->St->Prop}(keep:D->Bool)(V:D->D->C3->Prop)(A:Bm->Prop)(hlen:src.ds.length<=sizeLine)(hV:∀d x σ σ',Cq σ σ'->V d x σ->V d x σ')(hg:∀σ,Cq st.sto σ->src.g σ)
  (hA:A (F6 cls st.loc)) (h:∀d,d∈src.ds->∀loc σ,A loc->Cq st.sto σ->∃loc',tgt d loc=some loc'/\A loc'/\W mt ⟨loc',σ⟩ (λb st'=>b=keep d/\st'.loc=loc'/\Cq σ st'.sto/\(b=true->W me st' (λx st''=>st''.loc=loc'/\Cq st'.sto st''.sto/\V d x st''.sto))))
  (hQ:∀xs σ',Cq st.sto σ'->Bs (λx d=>V d x σ') xs (src.ds.filter keep)->Q (.ref σ'.length) ⟨st.loc,σ'++[.list xs]⟩):W (C7 cls tgt mt me src) st Q:=by
 apply yo;intro _ k0
 obtain⟨xs,l,σ',e,_,hx,r⟩:=zBB keep V A hV hg src.ds [] (F6 cls st.loc) st.sto h hA (.refl _)
 apply k0
 refine⟨_,_,?_,hQ xs σ' hx r⟩
 unfold C7;rw[lO6 hlen,e];simp
end
section
open Builtin.Str
noncomputable def cl (x:Str):List Nat:=x.cps.toList
theorem Qg(h:cl x=cl y):x=y:=by
 obtain⟨a⟩:=x;obtain⟨b⟩:=y;have:a=b:=Array.toList_inj.mp h
 rw[this]
theorem F5(x y:Str):cl (x++y)=cl x++cl y:=by
 show(x.cps++y.cps).toList=_
 simp[cl]
theorem Bb(x:Str):(cl x).length=x.length:=by simp[cl,Str.length]
theorem zIk(l:List Nat):cl ⟨l.toArray⟩=l:=by simp[cl]
noncomputable def Bz (c:Nat):List (List Nat)->List Nat
 |[]=>[]
 |[a]=>a
 |a::b::r=>a++c::Bz c (b::r)
theorem Ka:Bz c []=[]:=rfl
theorem K7:Bz c [a]=a:=rfl
theorem Ic:Bz c (a::b::r)=a++c::Bz c (b::r):=rfl
theorem Iw(c:Nat):∀xs:List Str,cl (Str.join ⟨#[c]⟩ xs)=Bz c (xs.map cl)
 |[]=>rfl
 |[x]=>rfl
 |x::y::r=>by
  have:=Iw c (y::r)
  show cl (x++⟨#[c]⟩++Str.join ⟨#[c]⟩ (y::r))=_
  simp only[F5,F5,this];simp[Ka,K7,Ic,cl]
theorem zGO:∀{a b r s:List Nat},c∉a->c∉b->a++c::r=b++c::s->a=b/\r=s:=by
 intro a
 induction a with
 |nil=>
  intro b r s _ hb e
  cases b with
  |nil=>exact⟨rfl,(List.cons.inj e).2⟩
  |cons y b=>exact absurd (by rw[(List.cons.inj e).1];exact lq1) hb
 |cons x a ih=>
  intro b r s ha hb e
  cases b with
  |nil=>exact absurd (by rw[(List.cons.inj e).1];exact lq1) ha
  |cons y b=>
   obtain⟨e1,e2⟩:=List.cons.inj e;obtain⟨h1,h2⟩:=ih (λm=>ha (lq4 _ m)) (λm=>hb (lq4 _ m)) e2
   exact⟨by rw[e1,h1],h2⟩
theorem Rh:∀{as bs:List (List Nat)},as≠[]->bs≠[]->(∀a,a∈as->c∉a)->(∀b,b∈bs->c∉b)->Bz c as=Bz c bs->as=bs:=by
 intro as
 induction as with
 |nil=>intro bs h;exact absurd rfl h
 |cons a as ih=>
  intro bs h1 h2 ha hb e;rcases bs with _|⟨b,bs⟩
  ·exact absurd rfl h2
  rcases as with _|⟨a',r⟩
  ·rcases bs with _|⟨b',s⟩
   ·have e:a=b:=e
    rw[e]
   ·have e:a=b++c::Bz c (b'::s):=e
    exact absurd (by rw[e];simp) (ha a lq1)
  ·rcases bs with _|⟨b',s⟩
   ·have e:a++c::Bz c (a'::r)=b:=e
    exact absurd (by rw[←e];simp) (hb b lq1)
   ·have e:a++c::Bz c (a'::r)=b++c::Bz c (b'::s):=e
    obtain⟨h1,h2⟩:=zGO (ha a lq1) (hb b lq1) e;rw[h1,ih (by simp) (by simp) (λx m=>ha x (lq4 _ m)) (λx m=>hb x (lq4 _ m)) h2]
noncomputable def Cu (c:Nat):List Nat->List (List Nat)
 |[]=>[[]]
 |x::r=>if x=c then[]::Cu c r else match Cu c r with
  |[]=>[[x]]
  |a::s=>(x::a)::s
theorem M1:Cu c (x::r)=if x=c then[]::Cu c r else match Cu c r with
  |[]=>[[x]]
  |a::s=>(x::a)::s:=rfl
theorem F7(c:Nat):∀l,Cu c l≠[]
 |[]=>λh=>by cases h
 |x::r=>by
  rw[M1];split
  ·simp
  ·split<;>simp
theorem Ha(c:Nat):∀l,Bz c (Cu c l)=l
 |[]=>rfl
 |x::r=>by
  have ih:=Ha c r;rw[M1];by_cases h:x=c
  ·rw[lO6 h]
   cases e:Cu c r with
   |nil=>exact absurd e (F7 c r)
   |cons a s=>rw[e]at ih;show[]++c::Bz c (a::s)=_;rw[ih,h];rfl
  ·rw[lO5 h]
   cases e:Cu c r with
   |nil=>exact absurd e (F7 c r)
   |cons a s=>
    rw[e]at ih
    cases s with
    |nil=>show x::a=_;rw[←ih];rfl
    |cons b t=>show(x::a)++c::Bz c (b::t)=_;rw[←ih];rfl
theorem Jr(c:Nat):∀l,∀p,p∈Cu c l->c∉p
 |[],p,m=>by rw[lq0 (show p∈[[]]from m)];simp
 |x::r,p,m=>by
  have ih:=Jr c r;rw[M1]at m;by_cases h:x=c
  ·rw[lO6 h]at m;rcases lL5.mp m with rfl|m
   ·simp
   ·exact ih p m
  ·rw[lO5 h]at m
   cases e:Cu c r with
   |nil=>exact absurd e (F7 c r)
   |cons a s=>
    rw[e]at m ih;rcases lL5.mp m with rfl|m
    ·intro q;rcases lL5.mp q with q|q
     ·exact h q.symm
     ·exact ih a lq1 q
    ·exact ih p (lq4 _ m)
theorem Un(x:Str)(c:Nat):Txt.split x ⟨#[c]⟩≠[]:=by
 unfold Txt.split;split
 ·simp
 ·split
  ·simp
  ·rw[StrLaws.partsBetween_eq];obtain⟨p,r,e⟩:=StrLaws.partsFrom_ne x (⟨#[c]⟩:Str).length 0 (occurrences x ⟨#[c]⟩ 0 x.length (x.length+1))
   rw[e];simp
theorem Gu(x:Str)(c:Nat):(Txt.split x ⟨#[c]⟩).map cl=Cu c (cl x):=by
 refine Rh (c:=c) (by simpa using Un x c) (F7 _ _) (λa m=>?_) (Jr c _) ?_
 ·obtain⟨p,mp,rfl⟩:=lM4.mp m;exact StrLaws.split_free x c p mp
 ·rw[←Iw,StrLaws.join_split,Ha]
theorem M3(h:as≠[])(hf:∀a,a∈as->c∉a):Cu c (Bz c as)=as:=
 Rh (F7 _ _) h (Jr c _) hf (Ha c _)
theorem Hj(x:Str)(w:Nat):∀(cuts:List Nat) (a:Nat),(StrLaws.partsFrom x w a cuts).length=cuts.length+1
 |[],a=>rfl
 |c::r,a=>by
  have:=Hj x w r (c+w)
  simp only[StrLaws.partsFrom,lI0,this]
theorem V1{x:Str}{c:Nat}{st:St}{Q:D->St->Prop}(hx:x.length+2<=sizeLine)(h:Q (.ref st.sto.length) ⟨st.loc,st.sto++[.list ((Txt.split x ⟨#[c]⟩).map D.str)]⟩):W (Mx x [.str ⟨#[c]⟩]) st Q:=by
 refine zG2.mpr ⟨⟨rfl,by exact Cp (Ac x0 x1) [Ac (.a x0 (.n 2)) x1] rT hx,?_⟩,h⟩
 simp only[StrLaws.partsBetween_eq,Hj];have:=StrLaws.occ_length_le_len x ⟨#[c]⟩ 0 x.length (x.length+1)
 exact Cd (Ac (.a x1 (.n 1)) x0) [Ac (.a x2 (.n 2)) x0,Ac x1 x3,Ac x3 (.a x2 (.n 1))] rT hx this (Eb _ _)
theorem H1(xs:List Str):Jv (xs.map D.str)=some xs:=by
 induction xs with
 |nil=>rfl
 |cons x r ih=>show(Jv (r.map D.str)).map (x:: ·)=_;rw[ih];rfl
theorem Fa(xs:List Int):Dz (xs.map D.int)=some xs:=by
 induction xs with
 |nil=>rfl
 |cons x r ih=>show(Dz (r.map D.int)).map (x:: ·)=_;rw[ih];rfl
theorem Hv(hB:∀x,x∈xs->x.length<=B)(h:xs.length*B+xs.length*sep.length<=16777216):JoinOk sep xs=true:=by
 unfold JoinOk;rw[StrLaws.joinFits hB h];rfl
theorem G4(c:Nat):∀(as:List (List Nat)),(∀a,a∈as->a.length<=B)->(Bz c as).length<=as.length*(B+1)
 |[],_=>by simp[Ka,K7,Ic]
 |[a],h=>by
  have:=h a lq1
  simp only[Ka,K7,Ic,lI0,List.length_nil];lia
 |a::b::r,h=>by
  have h1:=h a lq1;have h2:=G4 c (b::r) (λx m=>h x (lq4 _ m))
  simp only[Ka,K7,Ic,lq7,lI0]at h2 ⊢;rw[Nat.succ_mul];exact Cd (Ac (.a x0 (.a x2 (.n 1))) (.a x3 (.a x1 (.n 1)))) [Ac x0 x1,Ac x2 x3] rT h1 h2
theorem zFC:Str.ofString ""=⟨#[]⟩:=rfl
theorem Q6:∀xs:List Str,cl (Str.join ⟨#[]⟩ xs)=(xs.map cl).flatten
 |[]=>rfl
 |[x]=>by simp[Str.join]
 |x::y::r=>by
  have:=Q6 (y::r)
  show cl (x++⟨#[]⟩++Str.join ⟨#[]⟩ (y::r))=_
  simp only[F5,F5,this];simp[cl]
theorem Le{α:Type}(l:List α):l.filter (λ_=>true)=l:=List.filter_eq_self.mpr λ_ _=>rfl
theorem Uj(h:d∈Ez a s n):∃j:Nat,j<n/\d=.int (a+j*s):=by
 simp only[Ez,lM4,lK9]at h;obtain⟨j,hj,rfl⟩:=h;exact⟨j,hj,rfl⟩
theorem Ji:(Ez a s n).length=n:=by simp[Ez]
end
section
open Builtin.Str
section
variable {st:St}{a b:Int}{x y:Str}{Q:D->St->Prop}
theorem Sd:W (B0 (.int a) (.int b)) st Q↔Q (.int (a+b)) st:=Ch
theorem zBK:zOW (W (B0 (.ref k) (.ref l)) st Q) (∃ds es,st.sto[k]? =some (.list ds)/\st.sto[l]? =some (.list es)/\ds.length+es.length<=sizeLine/\Q (.ref st.sto.length) ⟨st.loc,st.sto++[.list (ds++es)]⟩):=.mk <| by
 rintro⟨d1,d2,h1,h2,h3,q⟩
 exact⟨_,_,(Bf h1).trans ((Bf h2).trans (C8 h3)),q⟩
theorem zBv:W (B0 (.tup ds) (.tup es)) st Q↔(ds≠[]/\es≠[]/\ds.length+es.length<=sizeLine)/\Q (.tup (ds++es)) st:=Es.trans (lK3 λ_=>Ch)
theorem zCw:W (F2 (.str x) (.str y)) st Q↔Q (.bool (cl x==cl y)) st:=Ch
theorem Vo:W (Ho (.str x) (.str y)) st Q↔Q (.bool (cl x !=cl y)) st:=Ch
theorem zM1:W (Qk (.str x) (.str y)) st Q↔Q (.bool (decide (cl x<cl y))) st:=Ch
theorem zMt:W (zCn (.str x) (.str y)) st Q↔Q (.bool (decide (cl y<cl x))) st:=Ch
theorem zDC{m:Mn D}{lo hi:Option (Mn D)}:W (Fb m lo hi) st Q↔W m st λd st1=>W (Hf lo) st1 λl st2=>W (Hf hi) st2 λh st3=>W (Jb d l h) st3 Q:=by
 unfold Fb;simp only[Hr,Ch]
theorem Wm{Q:Option Int->St->Prop}:W (Hf none) st Q↔Q none st:=Ch
theorem V3{m:Mn D}{Q:Option Int->St->Prop}:W (Hf (some m)) st Q↔W m st λd st1=>W (V6 d) st1 Q:=by unfold Hf;rw[Hr]
theorem zGA{Q:Option Int->St->Prop}:W (V6 (.int a)) st Q↔Q (some a) st:=Ch
theorem zCK:zOW (W (Jb (.ref k) l h) st Q) (∃ds,st.sto[k]? =some (.list ds)/\ds.length<=sizeLine/\Q (.ref st.sto.length) ⟨st.loc,st.sto++[.list (G8 l h ds)]⟩):=.mk <| by
 rintro⟨d1,h1,h3,q⟩
 exact⟨_,_,(Bf h1).trans (C8 h3),q⟩
theorem Zo:W (Cs ms) st Q↔W ms st λds st1=>ds.length<=sizeLine/\Q (.ref st1.sto.length) ⟨st1.loc,st1.sto++[.list ds]⟩:=by
 unfold Cs;simp only[Hr,Es,W5]
theorem zEF:W (D6 ms) st Q↔W ms st λds st1=>ds.length<=sizeLine/\Q (.tup ds) st1:=by
 unfold D6;simp only[Hr,Es,Ch]
theorem zCr(h0:0<=i)(hk:st.sto[k]? =some (.list ds))(h1:i<ds.length)(h2:ds.length<=2 ^ 62):W (Aj (.ref k) (.int i)) st Q↔Q (ds[i.toNat]'(by exact Jf (lE8 (Int.le_of_eq (D5 (h0))) h1))) st:=by
 have hi:Gs i=true:=Ea.mpr ⟨by exact H6 (Ac (.s (.n 0) (.n 9223372036854775808)) x0) [Ac (.n 0) x0] rT h0,by exact Vt (Ae x0 (.n 9223372036854775808)) [Ae x0 x1,Ac x1 (.n 4611686018427387904)] rT h1 (Cc h2)⟩
 have hs:seqIndex? i ds.length=some i.toNat:=StrLaws.seqIndex_nonneg h0 h1
 have hlt:i.toNat<ds.length:=by exact Jf (lE8 (Int.le_of_eq (D5 (h0))) h1)
 have e:Aj (.ref k) (.int i) st=.ok (ds[i.toNat]'hlt) st:=(Bf hk).trans ((C8 hi).trans (by rw[hs,Option.bind_some,lA9 hlt];rfl))
 constructor
 ·rintro⟨d,st',e',q⟩;rw[e]at e';cases e';exact q
 ·intro q;exact⟨_,_,e,q⟩
end
end
section
open Builtin.Str
section
variable {st:St}{a b:Int}{x y:Str}{Q:D->St->Prop}
theorem zDx(h:st.sto[k]? =some (.list ds))(hl:ds.length<=sizeLine)(hQ:Q (.ref st.sto.length) ⟨st.loc,st.sto++[.list ds]⟩):W (Mm [.ref k]) st Q:=
 ⟨_,_,(Bf h).trans (C8 hl),hQ⟩
theorem zAo(h:st.sto[k]? =some (.list ds))(hK:L9 F st ds ks)(hQ:Q (.ref st.sto.length) ⟨st.loc,st.sto++[.list (Kr ds ks)]⟩):W (E4 F [.ref k]) st Q:=
 ⟨_,_,(Bf h).trans (by rw[Ri hK];rfl),hQ⟩
theorem zD8{c:Int}{Q:Js->St->Prop}:W (Cj [.int a,.int b,.int c]) st Q↔(Tz a&&Tz b&&(decide (1<=c)&&decide (c<1000)))=true/\Q ⟨Ez a c (Builtin.Range.rangeSize a b c).toNat,λ_=>True⟩ st:=by
 show W (if(Tz a&&Tz b&&(decide (1<=c)&&decide (c<1000)))=true then A8 _ else botM) st Q↔_
 rw[Es,Ch]
end
theorem C6{a b:Int}(h:0<b):0<=a.fmod b/\a.fmod b<b:=⟨Int.fmod_nonneg_of_pos a h,Int.fmod_lt_of_pos a h⟩
theorem Dt(h: -1000000<a)(h2:a<1000000):He a=true:=by simp only[He,lH6,lH2];exact⟨H6 (Ae (.s (.n 0) (.n 9223372036854775808)) x0) [Ae (.s (.n 0) (.n 1000000)) x0] rT h,Int.lt_of_lt_of_le h2 (by decide)⟩
end
section
variable {α:Type}{st st1:St}
theorem Aa(e:m st=.ok a st1)(h:Q a st1):W m st Q:=⟨a,st1,e,h⟩
theorem Ax(e:m1 st=.ok .next st1)(h:W m2 st1 Q):W (Ag m1 m2) st Q:=Tt.mpr ⟨_,_,e,h⟩
theorem El(e:m1 st=.ok (.ret d) st1)(h:Q (.ret d) st1):W (Ag m1 m2) st Q:=Tt.mpr ⟨_,_,e,h⟩
theorem Al(h:W m1 st (zN3 m2 Q)):W (Ag m1 m2) st Q:=Tt.mpr h
theorem Da(e:c st=.ok b st1)(ht:b=true->W m1 st1 (zN3 k Q))(hf:b=false->W m2 st1 (zN3 k Q)):W (Ag (Ex c m1 m2) k) st Q:=by
 refine Tt.mpr (Wd.mpr ⟨_,_,e,?_⟩)
 cases b with
 |true=>exact ht rfl
 |false=>exact hf rfl
theorem Nt(e:c st=.ok b st1)(h:b=false)(hf:W m2 st1 Q):W (Ex c m1 m2) st Q:=by
 subst h;exact Wd.mpr ⟨_,_,e,hf⟩
theorem Bg(h:W m st λd s=>d=a/\s=st1):m st=.ok a st1:=by
 obtain⟨d,s,e,rfl,rfl⟩:=h;exact e
theorem A7(h:st.loc i=some d):A6 i st=.ok d st:=by unfold A6;rw[h]
theorem A5{β:Type}{m:Mn β}{f:β->Mn α}{b:β}{a:α}{st2:St}(e:m st=.ok b st1)(e2:f b st1=.ok a st2):Af m f st=.ok a st2:=by unfold Af;rw[e];exact e2
theorem Ab{f:D->D->Mn D}{m1 m2:Mn D}{a b c:D}{st2 st3:St}(e1:m1 st=.ok a st1)(e2:m2 st1=.ok b st2)(e3:f a b st2=.ok c st3):Ad f m1 m2 st=.ok c st3:=A5 e1 (A5 e2 e3)
theorem B8{f:D->D->Mn D}{m1 m2:Mn D}{a b c:D}{t:Bool}{st2 st3:St}(e1:m1 st=.ok a st1)(e2:m2 st1=.ok b st2)(e3:f a b st2=.ok c st3)(e4:B5 c st3=.ok t st3):C1 f m1 m2 st=.ok t st3:=A5 e1 (A5 e2 (A5 e3 e4))
theorem run_set{m:Mn D}{i:Nat}{d:D}(e:m st=.ok d st1):Af m (Ah i) st=.ok .next ⟨Be st1.loc i d,st1.sto⟩:=A5 e rfl
theorem Lx{k:Nat}{i:Int}{F:List Int}(hk:st.sto[k]? =some (.list (F.map D.int)))(h0:0<=i)(h1:i<F.length)(h2:F.length<=2 ^ 62):Aj (.ref k) (.int i) st=.ok (.int (F.getD i.toNat 0)) st:=by
 refine Bg ((zCr h0 hk (by rw[lq6];exact h1) (by rw[lq6];exact h2)).mpr ⟨?_,rfl⟩)
 rw[List.getElem_map,lA2,lA9 (by exact Jf (lE8 (Int.le_of_eq (D5 (h0))) h1))];rfl
theorem Mg(h:W m1 st λa s1=>W m2 s1 λb s2=>W (f a b) s2 Q):W (Ad f m1 m2) st Q:=Hr.mpr (h.mono λ_ _ q=>Hr.mpr q)
theorem zLE{i k:Nat}{p:Int}{ms:Mn D}{Q:Fl->St->Prop}(hi:st.loc i=some (.int p))(h:W ms st λd s=>∃q,d=.int q/\Q .next ⟨Be s.loc k (.int (max p q)),s.sto⟩):W (Af (Af (A9 (A6 i) (A9 ms Ai)) Yi) (Ah k)) st Q:=by
 obtain⟨d,s,e,q,rfl,h⟩:=h;exact Aa (A5 (A5 (A5 (A7 hi) (A5 (A5 e rfl) rfl)) rfl) rfl) h
end
section
variable {α:Type}{st st1:St}
theorem zAj{β:Type}{m:Mn β}{f:β->Mn α}{b:β}(e:m st=.ok b st1):Af m f st=f b st1:=by unfold Af;rw[e]
theorem Wb{β:Type}{m:Mn β}{f:β->Mn α}{Q:α->St->Prop}(h:W m st λb st'=>W (f b) st' Q):W (Af m f) st Q:=Hr.mpr h
theorem Cv{k:Nat}{ds:List D}(hk:st.sto[k]? =some (.list ds)):Bq (.ref k) st=.ok ⟨ds,λσ=>σ[k]? =some (.list ds)⟩ st:=by
 show Wq st.sto[k]? _=_
 rw[hk];rfl
theorem Kj(e:ms st=.ok ds st1)(h:ds.length<=sizeLine):D6 ms st=.ok (.tup ds) st1:=Bg (zEF.mpr (Aa e ⟨h,rfl,rfl⟩))
theorem zEZ{ds:List D}(h:st.sto[k]? =some (.list ds))(w:W (F k) st Q):W (Dh F (.ref k)) st Q:=by
 obtain⟨a,st',e,q⟩:=w;exact⟨a,st',(Bf h).trans e,q⟩
theorem Ys{ds:List D}(h:st.sto[k]? =some (.list ds))(hl:ds.length<=sizeLine)(q:Q .none ⟨st.loc,st.sto.set k (.list (ds++[d]))⟩):W (Bt k d) st Q:=⟨_,_,(Bf h).trans (C8 hl),q⟩
theorem zM0(e:c st=.ok b st1)(ht:b=true->W m1 st1 Q)(hf:b=false->W m2 st1 Q):W (Ex c m1 m2) st Q:=by
 cases b with
 |true=>exact Wd.mpr ⟨_,_,e,ht rfl⟩
 |false=>exact Wd.mpr ⟨_,_,e,hf rfl⟩
theorem zKS{c:Mn Bool}{Q:Fl->St->Prop}(h:W c st λb st'=>if b=true then W m1 st' Q else W m2 st' Q):W (Ex c m1 m2) st Q:=Wd.mpr h
theorem zOg{Q:Bool->St->Prop}(h:W m st λb st'=>if b=true then Q true st' else W n st' Q):W (Ms m n) st Q:=zNM.mpr h
theorem zHB{Q:Bool->St->Prop}(h:W m st λb st'=>if b=true then W n st' Q else Q false st'):W (Oa m n) st Q:=zKY.mpr h
theorem zDM{Q:D->St->Prop}(h:W m st λd st'=>W (B5 d) st' λb st''=>if b=true then W n st'' Q else Q d st''):W (L8 m n) st Q:=zJm.mpr h
theorem zJ4{Q:D->St->Prop}(h:W ms st λds st1=>ds.length<=sizeLine/\Q (.tup ds) st1):W (D6 ms) st Q:=zEF.mpr h
theorem zB3{Q:D->St->Prop}(h:Q (.bool (cl x==cl y)) st):W (F2 (.str x) (.str y)) st Q:=zCw.mpr h
theorem zO0{lo hi:Option (Mn D)}{Q:D->St->Prop}(h:W m st λd st1=>W (Hf lo) st1 λl st2=>W (Hf hi) st2 λh st3=>W (Jb d l h) st3 Q):W (Fb m lo hi) st Q:=zDC.mpr h
theorem zOl{Q:Option Int->St->Prop}(h:Q none st):W (Hf none) st Q:=Wm.mpr h
theorem zOY{m:Mn D}{Q:Option Int->St->Prop}(h:W m st λd st1=>W (V6 d) st1 Q):W (Hf (some m)) st Q:=V3.mpr h
theorem zO7{Q:Option Int->St->Prop}(h:Q (some a) st):W (V6 (.int a)) st Q:=zGA.mpr h
theorem G5{m:Mn D}{d:D}(e:m st=.ok d st1):Ca m st=.ok (.ret d) st1:=A5 e rfl
theorem zDi{k:Nat}{ds:List D}{ns:List Int}{m:Int}(h:st.sto[k]? =some (.list ds))(h2:Dz ds=some ns)(h3:ns.max? =some m):Yi [.ref k] st=.ok (.int m) st:=by
 refine(Bf h).trans ?_
 have h3:zGS ns=some m:=h3
 simp only[h2,Option.bind_some,h3,lK1];rfl
theorem Ow{k:Nat}{ds:List D}{xs:List Str}{x:Str}(h:st.sto[k]? =some (.list ds))(h2:Jv ds=some xs)(h3:JoinOk x xs=true):Gm x [.ref k] st=.ok (.str (Str.join x xs)) st:=(Bf h).trans (by rw[h2];exact C8 h3)
theorem Uy{ns:List Int}{i:Int}{n:Int}(h0:0<=i/\i<2 ^ 63)(h:ns[i.toNat]? =some n):Aj (.scr ns) (.int i) st=.ok (.int n) st:=Bg (zCb.mpr ⟨h0,n,h,rfl,rfl⟩)
theorem zC4{n:Nat}(h:n<=1000):Cj [.int 1,.int ((n:Int)+1)] st=.ok ⟨Ez 1 1 n,λ_=>True⟩ st:=by
 refine Bg (Wj.mpr ⟨lD1.mpr ⟨rfl,Dl.mpr ⟨by exact H6 (Ac (.s (.n 0) (.n 1099511627776)) (.a x0 (.n 1))) [Ac (.n 0) x0] rT (cast_nn _),by exact H6 (Ae (.a x0 (.n 1)) (.n 1099511627776)) [Ac x0 (.n 1000)] rT (Cc h)⟩⟩,?_,rfl⟩)
 rw[Int.add_sub_cancel,lG2]
theorem zHL{m ml mh:Mn D}{d r:D}{a b:Int}(e:m st=.ok d st)(e1:ml st=.ok (.int a) st)(e2:mh st=.ok (.int b) st)(e3:Jb d (some a) (some b) st=.ok r st1):Fb m (some ml) (some mh) st=.ok r st1:=
 A5 e (A5 (b:=(some a,some b)) (A5 (A5 e1 rfl) (A5 (A5 e2 rfl) rfl)) e3)
theorem Oz{m n:Mn D}{d:D}(e:m st=.ok (.bool b) st1)(hb:b=true)(e2:n st1=.ok d st2):L8 m n st=.ok d st2:=by
 subst hb;exact A5 e (A5 (b:=true) rfl e2)
theorem zAp{ds:List D}(e:ms st=.ok ds st1)(h:ds.length<=sizeLine):Cs ms st=.ok (.ref st1.sto.length) ⟨st1.loc,st1.sto++[.list ds]⟩:=Bg (Zo.mpr (Aa e ⟨h,rfl,rfl⟩))
theorem zKr{ds:List D}{Q:Js->St->Prop}(h:st.sto[k]? =some (.list ds))(q:Q ⟨ds,λσ=>σ[k]? =some (.list ds)⟩ st):W (Bq (.ref k)) st Q:=Aa (Cv h) q
theorem To{k:Nat}{ds:List D}{xs:List Str}{x:Str}{Q:D->St->Prop}(h:st.sto[k]? =some (.list ds))(h2:Jv ds=some xs)(h3:JoinOk x xs=true)(q:Q (.str (Str.join x xs)) st):W (Gm x [.ref k]) st Q:=Aa (Ow h h2 h3) q
theorem zDN{k1 k2:Nat}{ds1 ds2:List D}{Q:Js->St->Prop}(h1:st.sto[k1]? =some (.list ds1))(h2:st.sto[k2]? =some (.list ds2))(q:Q ⟨Fu ds1 ds2,zDL k1 k2 st.sto.length ds1 ds2⟩ ⟨st.loc,st.sto++[.priv]⟩):W (Za [.ref k1,.ref k2]) st Q:=⟨_,_,(Bf h1).trans (Bf h2),q⟩
theorem zI0{k:Nat}{ds:List D}{Q:Js->St->Prop}(h:st.sto[k]? =some (.list ds))(q:Q ⟨Ip ds,zDK k ds⟩ st):W (Ve [.ref k]) st Q:=⟨_,_,Bf h,q⟩
theorem Dv(e:m st=.ok b st1)(hb:b=false)(e2:n st1=.ok c st2):Ms m n st=.ok c st2:=by
 subst hb;exact A5 e e2
end
theorem zFW{a:Int}{b n:Nat}(h:a=b):Ez a 1 n=(List.range n).map λj=>D.int ((j+b:Nat):Int):=by
 subst h;exact lE3 λj _=>lO2 D.int ((lO2 _ (Int.mul_one _)).trans (Int.add_comm _ _))
theorem zEu{n:Nat}(h:List.range n=dn++x::rest):x=dn.length/\dn.length<n:=by
 have h1:(List.range n)[dn.length]? =some x:=by rw[h,lA3 (lN4 _),lN1];rfl
 obtain⟨h2,h3⟩:=lq2 h1;rw[lF0]at h3;rw[lG4]at h2;exact⟨h3.symm,h2⟩
theorem Oq{a:Int}{n:Nat}{tgt:D->Bm->Option Bm}{g:C3->Prop}{body:Mn Fl}{Q:Fl->St->Prop}{b:Nat}(ha:a=b)(I:Nat->St->Prop)(hg:∀i st,I i st->g st.sto)(hstep:∀i st,i<n->I i st->∃loc',tgt (.int ((i+b:Nat):Int)) st.loc=some loc'/\W body ⟨loc',st.sto⟩ (zKN (I (i+1)) Q))
  (hend:∀st,I n st->Q .next st){st:St}(h0:I 0 st):W (By tgt g body (Ez a 1 n)) st Q:=by
 rw[zFW ha];refine E2 (λdn st=>I dn.length st) (λdn st h=>hg _ st h) (λdn x rest st hx h=>?_) (λst h=>hend st (by rw[lG4]at h;exact h)) h0
 obtain⟨e,hl⟩:=zEu hx;subst e;rw[lq7];exact hstep _ st hl h
theorem zBj{α:Type}{e:α->D}{i:Nat}{mt:Mn Bool}{me:Mn D}{g0:C3->Prop}{σ:C3}(keep:α->Bool)(g:α->D)(A:Bm->Prop)(hg:g0 σ)(hu:∀a l,A l->A (Be l i (e a)))(xs:List α):
  (∀a,a∈xs->∀l,A l->mt ⟨Be l i (e a),σ⟩=.ok (keep a) ⟨Be l i (e a),σ⟩/\(keep a=true->me ⟨Be l i (e a),σ⟩=.ok (g a) ⟨Be l i (e a),σ⟩))->
  ∀(acc:List D) (l:Bm),A l->∃l',Dm (As i) g0 mt me (xs.map e) acc ⟨l,σ⟩=.ok (acc++(xs.filter keep).map g) ⟨l',σ⟩:=by
 induction xs with
 |nil=>exactλ_ acc l _=>⟨l,by rw[List.map_nil,Mc,lO6 hg];exact lO2 (Re.ok · _) (lJ0 acc).symm⟩
 |cons a xs ih=>
  intro h acc l hA;obtain⟨h1,h2⟩:=h a lq1 l hA;have st:∀r,(bif keep a then Af me λx=>Dm (As i) g0 mt me (xs.map e) (acc++[x])else Dm (As i) g0 mt me (xs.map e) acc) ⟨Be l i (e a),σ⟩=r->Dm (As i) g0 mt me ((a::xs).map e) acc ⟨l,σ⟩=r:=λr z=>by
   rw[lL4,Lo,lO6 hg];exact(zAj h1).trans z
  have ih:=ih λb m=>h b (lq4 _ m)
  cases hk:keep a with
  |true=>
   rw[hk]at st;obtain⟨l',z⟩:=ih (acc++[g a]) (Be l i (e a)) (hu a l hA)
   refine⟨l',(st _ ((zAj (h2 hk)).trans z)).trans ?_⟩
   rw[List.filter_cons_of_pos hk,lq8];rfl
  |false=>
   rw[hk]at st;obtain⟨l',z⟩:=ih acc (Be l i (e a)) (hu a l hA);exact⟨l',(st _ z).trans (by rw[List.filter_cons_of_neg (by rw[hk];exact Bool.false_ne_true)])⟩
theorem N0{α:Type}{e:α->D}{i:Nat}{cls:List Nat}{mt:Mn Bool}{me:Mn D}{g0:C3->Prop}{xs:List α}{st:St}(keep:α->Bool)(g:α->D)(A:Bm->Prop)(hl:xs.length<=100000)(hg:g0 st.sto)(hA:A (F6 cls st.loc))(hu:∀a l,A l->A (Be l i (e a)))
  (h:∀a,a∈xs->∀l,A l->mt ⟨Be l i (e a),st.sto⟩=.ok (keep a) ⟨Be l i (e a),st.sto⟩/\(keep a=true->me ⟨Be l i (e a),st.sto⟩=.ok (g a) ⟨Be l i (e a),st.sto⟩)):
  C7 cls (As i) mt me ⟨xs.map e,g0⟩ st=.ok (.ref st.sto.length) ⟨st.loc,st.sto++[.list ((xs.filter keep).map g)]⟩:=by
 obtain⟨l',z⟩:=zBj keep g A hg hu xs h [] _ hA
 unfold C7;rw[lO6 (by show(xs.map e).length<=_;rw[lq6];exact lk hl rfl)]
 dsimp only;rw[z];rfl
theorem Gl{α:Type}{e:α->D}{i:Nat}{cls:List Nat}{me:Mn D}{g0:C3->Prop}{xs:List α}{st:St}(g:α->D)(A:Bm->Prop)(hl:xs.length<=100000)(hg:g0 st.sto)(hA:A (F6 cls st.loc))(hu:∀a l,A l->A (Be l i (e a)))
  (h:∀a,a∈xs->∀l,A l->me ⟨Be l i (e a),st.sto⟩=.ok (g a) ⟨Be l i (e a),st.sto⟩):
  C7 cls (As i) (A8 true) me ⟨xs.map e,g0⟩ st=.ok (.ref st.sto.length) ⟨st.loc,st.sto++[.list (xs.map g)]⟩:=by
 rw[N0 (mt:=A8 true) (λ_=>true) g A hl hg hA hu λa m l z=>⟨rfl,λ_=>h a m l z⟩,List.filter_eq_self.mpr λ_ _=>rfl]
section
open W
noncomputable abbrev Kk:Addr:=144
noncomputable def zOG:Operator->Option (D->D->Mn D)
 |.Add=>some B0
 |.Sub=>some H2
 |.FloorDiv=>some Hq
 |.Mod=>some E1
 |.Mult=>some Ey
 |_=>none
noncomputable def zOD:CmpOp->Option (D->D->Mn D)
 |.Lt=>some Qk
 |.Gt=>some zCn
 |.LtE=>some zLl
 |.Eq=>some F2
 |.NotEq=>some Ho
 |.In=>some zIq
 |.NotIn=>some Pf
 |_=>none
noncomputable def T0:Tb where
 fns:=[]
 nums:=[((Str.ofString "MOST"),200),((Str.ofString "MOST_LINES"),20)]
 bf:=[((Str.ofString "len"),("len",Cf)),((Str.ofString "max"),("max",Yi)),((Str.ofString "min"),("min",Vg))]
 tv:=[((Str.ofString "list"),("list",Mm)),((Str.ofString "str"),("str",Q8))]
 ts:=[((Str.ofString "enumerate"),("enumerate",true,Ve)),((Str.ofString "range"),("range",false,Cj)),((Str.ofString "zip"),("zip",true,Za))]
 sm:=[((Str.ofString "endswith"),("str.endswith",Hs)),((Str.ofString "join"),("str.join",Gm)),((Str.ofString "rstrip"),("str.rstrip",Og)),((Str.ofString "split"),("str.split",Mx))]
 ty:=[((Str.ofString "bool"),"bool"),((Str.ofString "int"),"int"),((Str.ofString "list"),"list"),((Str.ofString "str"),"str"),((Str.ofString "tuple"),"tuple")]
 bin:=zOG
 cmp:=zOD
 me:=(zDl (Str.ofString "pop") zCz (zDl (Str.ofString "index") (zFd Q2) (zDl (Str.ofString "append") (zFd Bt) zNQ)))
 so:=λF=>some (E4 F)
 sl:=zIl (Str.ofString "cell") 148 0 Kk
 xe:=zJt zD5 zJF
 xs:=zIx
theorem zOp{G:Gd}{P:Params}(L:zDu G (Mine.Internal.hK P) 148 144):C5 G T0 where
 fns _ _ _ _ h:=Bc h
 nums:=(Bw (P:=zOE G) (x:=(Str.ofString "MOST")) (L.lay.globInt (by kernel_rfl)) (Bw (P:=zOE G) (x:=(Str.ofString "MOST_LINES")) (L.lay.globInt (by kernel_rfl)) (Hn (P:=zOE G))))
 bf f n F h:=(Bw (P:=zN0 G) (x:=(Str.ofString "len")) ⟨(L.lay.bui (by kernel_rfl) (by boot_by_name) (by kernel_rfl)),zGD⟩ (Bw (P:=zN0 G) (x:=(Str.ofString "max")) ⟨(L.lay.bui (by kernel_rfl) (by boot_by_name) (by kernel_rfl)),zLS⟩ (Bw (P:=zN0 G) (x:=(Str.ofString "min")) ⟨(L.lay.bui (by kernel_rfl) (by boot_by_name) (by kernel_rfl)),zL8⟩ (Hn (P:=zN0 G))))) f (n,F) h
 tv f n F h:=(Bw (P:=zOH G) (x:=(Str.ofString "list")) ⟨(L.lay.bui (by kernel_rfl) (by boot_by_name) (by kernel_rfl)),zI7⟩ (Bw (P:=zOH G) (x:=(Str.ofString "str")) ⟨(L.lay.bui (by kernel_rfl) (by boot_by_name) (by kernel_rfl)),zKa⟩ (Hn (P:=zOH G)))) f (n,F) h
 ts f n b F h:=(Bw (P:=zN6 G) (x:=(Str.ofString "enumerate")) ⟨(L.lay.bui (by kernel_rfl) (by boot_by_name) (by kernel_rfl)),_,zIA,λt h=>Wa h⟩ (Bw (P:=zN6 G) (x:=(Str.ofString "range")) ⟨(L.lay.bui (by kernel_rfl) (by boot_by_name) (by kernel_rfl)),_,zFI,λ_ _=>trivial⟩ (Bw (P:=zN6 G) (x:=(Str.ofString "zip")) ⟨(L.lay.bui (by kernel_rfl) (by boot_by_name) (by kernel_rfl)),_,zKc,λt h=>Wa h⟩ (Hn (P:=zN6 G))))) f (n,b,F) h
 sm f n F h:=(Bw (P:=zLy G) (x:=(Str.ofString "endswith")) Va (Bw (P:=zLy G) (x:=(Str.ofString "join")) zHP (Bw (P:=zLy G) (x:=(Str.ofString "rstrip")) zBo (Bw (P:=zLy G) (x:=(Str.ofString "split")) zC2 (Hn (P:=zLy G)))))) f (n,F) h
 ty:=(Bw (P:=zLi G) (x:=(Str.ofString "bool")) ⟨(L.lay.bui (by kernel_rfl) (by boot_by_name) (by kernel_rfl)),zEo⟩ (Bw (P:=zLi G) (x:=(Str.ofString "int")) ⟨(L.lay.bui (by kernel_rfl) (by boot_by_name) (by kernel_rfl)),zH2⟩ (Bw (P:=zLi G) (x:=(Str.ofString "list")) ⟨(L.lay.bui (by kernel_rfl) (by boot_by_name) (by kernel_rfl)),zFS⟩ (Bw (P:=zLi G) (x:=(Str.ofString "str")) ⟨(L.lay.bui (by kernel_rfl) (by boot_by_name) (by kernel_rfl)),zHt⟩ (Bw (P:=zLi G) (x:=(Str.ofString "tuple")) ⟨(L.lay.bui (by kernel_rfl) (by boot_by_name) (by kernel_rfl)),zBV⟩ (Hn (P:=zLi G)))))))
 isi:=(L.lay.bui (by kernel_rfl) (by boot_by_name) (by kernel_rfl))
 bin op f h:=by
  cases op with
  |Add=>exact Am (P:=Hc G _) h zH9
  |Sub=>exact Am (P:=Hc G _) h zHx
  |FloorDiv=>exact Am (P:=Hc G _) h zHn
  |Mod=>exact Am (P:=Hc G _) h zGC
  |Mult=>exact Am (P:=Hc G _) h zGr
  |_=>exact Bc h
 cmp op f h:=by
  cases op with
  |Lt=>exact Am (P:=Ed G _) h zJu
  |Gt=>exact Am (P:=Ed G _) h zLT
  |LtE=>exact Am (P:=Ed G _) h zKs
  |Eq=>exact Am (P:=Ed G _) h zHh
  |NotEq=>exact Am (P:=Ed G _) h zGy
  |In=>exact Am (P:=Ed G _) h zKP
  |NotIn=>exact Am (P:=Ed G _) h zBs
  |_=>exact Bc h
 me:=(U7 zLA (U7 (zF4 zEg) (U7 (zF4 zAw) zGg)))
 so F F' h:=zCO (L.lay.bui (by kernel_rfl) (by boot_by_name) (by kernel_rfl)) h
 sl:=zDj (by intros;intros x;intros;kernel_rfl) L.lam (L.lay.bui (by kernel_rfl) (by boot_by_name) (by kernel_rfl))
 xe:=zHr (zB1 L.lay.g) (zFL (L.lay.bui (by kernel_rfl) (by boot_by_name) (by kernel_rfl)) (L.lay.bui (by kernel_rfl) (by boot_by_name) (by kernel_rfl)))
 xs:=zFX
theorem zOj{G:Gd}{P:Params}(L:zDu G (Mine.Internal.hK P) 148 144){T:Tb}(ok:C5 G T)(i a c:Nat)(xs ys:List Str)(n:Nat)(q:Str){is:List Nat}{d:Mn Fl}(hb:∀vs:List Value,vs.length=xs.length→bindArgs (Et (Mine.Internal.hK P) a) ⟨vs,[]⟩=pure (xs.zip vs))(h:(zG7 (Mine.Internal.hK P) a xs,(Et (Mine.Internal.hK P) a).body,(Et (Mine.Internal.hK P) a).scope.names,(Et (Mine.Internal.hK P) a).code,(Et (Mine.Internal.hK P) a).qualname++".<locals>.",decide (xs++ys).Nodup,is.map (λi=>(xs++ys)[i]?),(zLp T 60).s ⟨Oj pw i,xs++ys,n,.ref c,q⟩ (Tf pw i))=(true,.stmts (Tf pw i),Oj pw i,.ref c,q,true,xs.map some,some d)):SF G (n+1) a (D2 is d):=by
 obtain⟨h1,h⟩:=Prod.mk.inj h;obtain⟨h2,h⟩:=Prod.mk.inj h;obtain⟨h3,h⟩:=Prod.mk.inj h;obtain⟨h4,h⟩:=Prod.mk.inj h;obtain⟨h5,h⟩:=Prod.mk.inj h;obtain⟨h6,h⟩:=Prod.mk.inj h;obtain⟨h7,h8⟩:=Prod.mk.inj h;exact zND (zHD L.lay h1 h2 hb) h3 h4 h5 (lH3 h6) h7 ((zLZ ok 60).s _ _ _ h8)
theorem J4{G:Gd}{P:Params}(L:zDu G (Mine.Internal.hK P) 148 144){T:Tb}(ok:C5 G T){f:Str}(i a c:Nat)(xs ys:List Str)(n:Nat)(q:Str){is:List Nat}{d:Mn Fl}(hb:∀vs:List Value,vs.length=xs.length→bindArgs (Et (Mine.Internal.hK P) a) ⟨vs,[]⟩=pure (xs.zip vs))(h:(nsIn (Mine.Internal.hK P) mainGlobals f,Ob (Mine.Internal.hK P) a,zG7 (Mine.Internal.hK P) a xs,(Et (Mine.Internal.hK P) a).body,(Et (Mine.Internal.hK P) a).scope.names,(Et (Mine.Internal.hK P) a).code,(Et (Mine.Internal.hK P) a).qualname++".<locals>.",decide (xs++ys).Nodup,is.map (λi=>(xs++ys)[i]?),(zLp T 60).s ⟨Oj pw i,xs++ys,n,.ref c,q⟩ (Tf pw i))=(some (some (.ref a)),true,true,.stmts (Tf pw i),Oj pw i,.ref c,q,true,xs.map some,some d)):C5 G {T with fns:=(f,a,n+1,D2 is d)::T.fns}:=by
 obtain⟨h1,h⟩:=Prod.mk.inj h;obtain⟨h2,h⟩:=Prod.mk.inj h;exact ok.add (L.lay.glob h1) (L.lay.fd h2) (zOj L ok i a c xs ys n q hb h)
noncomputable def zCB:Mn Fl:=(Ag (Ex (C1 Qk (A6 1) (Af (A9 (A6 0) Ai) Cf)) (Ag (Ca (Ad Aj (A6 0) (A6 1)))
 (A8 .next)) (A8 .next))
 (Ag (Ca (A8 (.int 0)))
 (A8 .next)))
noncomputable def Ef:List D->Mn D:=D2 [0,1] zCB
noncomputable def T__law_at:Tb:={T0 with fns:=((sO "_law_at"),279,1,Ef)::T0.fns}
noncomputable def Qr:Mn Fl:=(Ag (Ca (D6 (A9 (Ad Aj (A6 0) (A8 (.int 0))) (A9 (Ad Aj (A6 0) (A8 (.int 1))) Ai))))
 (A8 .next))
noncomputable def Ff:List D->Mn D:=D2 [0] Qr
noncomputable def T__law_corner:Tb:={T__law_at with fns:=((sO "_law_corner"),310,1,Ff)::T__law_at.fns}
noncomputable def Nr:Mn Fl:=(Ag (Af (A8 (.str (sO "+-|+-| !\"#$&'()*+,-./0123456789:;<=>?@ABCDEFGHIJKLMNOPQRSTUVWXYZ[\\]^_`"))) (Ah 2))
 (Ag (Af (Ad B0 (A6 2) (A8 (.str (sO "abcdefghijklmnopqrstuvwxyz{|}~")))) (Ah 2))
 (Ag (Ca (Af (Af (A8 (.str (Str.ofString ""))) (strM λx=>Af (A9 (Af (Af (A9 (A6 1) Ai) Cj) (C7 [3] (As 3) (A8 true) (Ad Aj (A6 2) (Ad E1 (Ad B0 (A6 0) (Ad Ey (A6 3) (Ad B0 (A8 (.int 1)) (Ad E1 (Ad Hq (A6 0) (A8 (.int 100))) (A8 (.int 99)))))) (A8 (.int 100)))))) Ai) (Gm x))) (strM λx=>Af (A9 (A8 (.str (sO " "))) Ai) (Og x))))
 (A8 .next))))
noncomputable def Ds:List D->Mn D:=D2 [0,1] Nr
noncomputable def T__law_line:Tb:={T__law_corner with fns:=((sO "_law_line"),284,1,Ds)::T__law_corner.fns}
noncomputable def Nz:Mn Fl:=(Ag (Af (Ad Hq (A6 0) (A8 (.int 8))) (Ah 1))
 (Ag (Ex (C1 F2 (Ad E1 (A6 0) (A8 (.int 64))) (A8 (.int 7))) (Ag (Ca (Af (A9 (Ad Hq (Ad Hq (A6 1) (A8 (.int 8))) (A8 (.int 201))) (A9 (Ad E1 (Ad Hq (A6 1) (A8 (.int 8))) (A8 (.int 201))) Ai)) Ds))
 (A8 .next)) (A8 .next))
 (Ag (Ex (C1 F2 (Ad E1 (A6 0) (A8 (.int 16))) (A8 (.int 14))) (Ag (Af (Af (Af (A9 (Ad B0 (A8 (.int 1)) (Ad E1 (Ad Hq (A6 1) (A8 (.int 2))) (A8 (.int 60)))) Ai) Cj) (C7 [3] (As 3) (A8 true) (Af (A9 (Ad B0 (Ad Hq (A6 1) (A8 (.int 120))) (Ad Ey (A8 (.int 7)) (A6 3))) (A9 (Ad E1 (Ad B0 (A6 1) (A6 3)) (A8 (.int 3))) Ai)) Ds))) (Ah 2))
 (Ag (Ca (Ad B0 (Af (A8 (.str (sO "\n"))) (strM λx=>Af (A9 (A6 2) Ai) (Gm x))) (A8 (.str (sO "|")))))
 (A8 .next))) (A8 .next))
 (Ag (Ex (C1 F2 (Ad E1 (A6 0) (A8 (.int 8))) (A8 (.int 6))) (Ag (Af (Af (Af (A9 (Ad B0 (A8 (.int 1)) (Ad E1 (A6 1) (A8 (.int 4)))) Ai) Cj) (C7 [3] (As 3) (A8 true) (Af (A9 (Ad B0 (Ad Hq (A6 1) (A8 (.int 36))) (Ad Ey (A8 (.int 29)) (A6 3))) (A9 (Ad E1 (Ad B0 (Ad Hq (A6 1) (A8 (.int 4))) (Ad Ey (A8 (.int 2)) (A6 3))) (A8 (.int 9))) Ai)) Ds))) (Ah 2))
 (Ag (Ca (Ad B0 (Af (A8 (.str (sO "\n"))) (strM λx=>Af (A9 (A6 2) Ai) (Gm x))) (Ad Aj (Cs (A9 (A8 (.str (sO "|"))) (A9 (A8 (.str (sO "-"))) (A9 (A8 (.str (sO "+"))) (A9 (A8 (.str (sO "."))) Ai))))) (Ad E1 (Ad Hq (A6 1) (A8 (.int 4))) (A8 (.int 4))))))
 (A8 .next))) (A8 .next))
 (Ag (Ca (Af (A9 (Ad Hq (A6 1) (A8 (.int 7))) (A9 (Ad Ey (Ad E1 (A6 1) (A8 (.int 7))) (Af (A9 (A8 (.int 1)) (A9 (Ad E1 (A6 0) (A8 (.int 8))) Ai)) Vg)) Ai)) Ds))
 (A8 .next))))))
noncomputable def H7:List D->Mn D:=D2 [0] Nz
noncomputable def T__law_text:Tb:={T__law_line with fns:=((sO "_law_text"),289,2,H7)::T__law_line.fns}
noncomputable def Sw:Mn Fl:=(Ag (Af (Ad Ey (Cs (A9 (A8 (.int 0)) Ai)) (A6 1)) (Ah 3))
 (Ag (Af (Cs Ai) (Ah 4))
 (Ag (Af (Af (A9 (Ad Ey (A6 0) (A6 1)) Ai) Cj) λsrc=>By (As 5) src.g (Ag (Af (Af (A9 (A6 3) Ai) Vg) (Ah 6))
 (Ag (Ex (C1 Qk (A6 6) (A6 0)) (Ag (Af (Af (A6 3) (Dh λk=>Af (A6 6) (Q2 k))) (Ah 7))
 (Ag (Af (A8 (.int 1)) (Ah 8))
 (Ag (Gn (Oa (C1 Qk (Ad B0 (A6 7) (A6 8)) (A6 1)) (C1 F2 (Ad Aj (A6 3) (Ad B0 (A6 7) (A6 8))) (A6 6))) (Ag (Af (Ad B0 (A6 8) (A8 (.int 1))) (Ah 8))
 (A8 .next)))
 (Ag (Af (Af (A8 (.int 1)) zH8) (Ah 9))
 (Ag (Ex (C1 Qk (A6 5) (Af (A9 (A6 2) Ai) Cf)) (Ag (Af (Ad Aj (A6 2) (A6 5)) (Ah 9))
 (A8 .next)) (A8 .next))
 (Ag (Af (Ad B0 (A8 (.int 1)) (Ad E1 (A6 9) (A6 8))) (Ah 10))
 (Ag (Af (Ad B0 (A8 (.int 1)) (Ad E1 (Ad Hq (A6 9) (A6 8)) (Ad H2 (A6 0) (A6 6)))) (Ah 11))
 (Ag (Af (Af (A6 4) (Dh λk=>Af (D6 (A9 (A6 6) (A9 (A6 7) (A9 (A6 11) (A9 (A6 10) Ai))))) (Bt k))) Ct)
 (Ag (Af (Ad B0 (Ad B0 (Fb (A6 3) none (some (A6 7))) (Ad Ey (Cs (A9 (Ad B0 (A6 6) (A6 11)) Ai)) (A6 10))) (Fb (A6 3) (some (Ad B0 (A6 7) (A6 10))) none)) (Ah 3))
 (A8 .next)))))))))) (A8 .next))
 (A8 .next))) src.ds)
 (Ag (Ca (A6 4))
 (A8 .next)))))
noncomputable def G2:List D->Mn D:=D2 [0,1,2] Sw
noncomputable def T__law_tiled:Tb:={T__law_text with fns:=((sO "_law_tiled"),303,1,G2)::T__law_text.fns}
noncomputable def Sl:Mn Fl:=(Ag (Af (Af (Af (A9 (A8 (.int 2)) (A9 (Af (A9 (Af (A9 (A6 0) Ai) Cf) (A9 (A8 (.int 42)) Ai)) Vg) (A9 (A8 (.int 2)) Ai))) Cj) (C7 [7] (As 7) (A8 true) (Ad Aj (A6 0) (A6 7)))) (Ah 4))
 (Ag (Ex (Af (A6 3) B5) (Ag (Af (Ad Ey (Cs (A9 (A8 (.int 0)) Ai)) (Ad Ey (A6 1) (A6 2))) (Ah 4))
 (A8 .next)) (A8 .next))
 (Ag (Af (Af (A9 (A6 1) (A9 (A6 2) (A9 (A6 4) Ai))) G2) (Ah 5))
 (Ag (Af (Cs Ai) (Ah 6))
 (Ag (Af (Af (A9 (A6 5) Ai) Ve) λsrc=>By (Jg 2 (Bl (As 7) (Bl (As 8) Fz))) src.g (Ag (Af (Af (A9 (Ad E1 (A6 7) (A8 (.int 97))) Ai) Q8) (Ah 9))
 (Ag (Ex (C1 Qk (Ad B0 (A8 (.int 3)) (Ad Ey (A8 (.int 2)) (A6 7))) (Af (A9 (A6 0) Ai) Cf)) (Ag (Af (Af (A9 (Ad Aj (A6 0) (Ad B0 (A8 (.int 3)) (Ad Ey (A8 (.int 2)) (A6 7)))) Ai) H7) (Ah 9))
 (A8 .next)) (A8 .next))
 (Ag (Af (Af (A6 6) (Dh λk=>Af (Ad B0 (A6 8) (D6 (A9 (A6 9) Ai))) (Bt k))) Ct)
 (A8 .next)))) src.ds)
 (Ag (Ca (Af (A9 (A6 6) Ai) (E4 Ff)))
 (A8 .next)))))))
noncomputable def Ga:List D->Mn D:=D2 [0,1,2,3] Sl
noncomputable def T__law_cells:Tb:={T__law_tiled with fns:=((sO "_law_cells"),315,3,Ga)::T__law_tiled.fns}
noncomputable def Ph:Mn Fl:=(Ag (Af (Cs (A9 (A8 (.int 0)) Ai)) (Ah 3))
 (Ag (Af (Af (A9 (A6 1) Ai) Cj) λsrc=>By (As 4) src.g (Ag (Af (Af (A6 3) (Dh λk=>Af (Ad B0 (Ad Aj (A6 3) (A6 4)) (Af (A9 (A8 (.int 1)) (A9 (Af (A9 (Af (Af (A6 0) Bq) (C7 [5] (As 5) (C1 F2 (Ad Aj (A6 5) (A6 2)) (A6 4)) (A6 5))) Ai) Cf) Ai)) Vg)) (Bt k))) Ct)
 (A8 .next)) src.ds)
 (Ag (Ca (A6 3))
 (A8 .next))))
noncomputable def Cg:List D->Mn D:=D2 [0,1,2] Ph
noncomputable def T__law_counted:Tb:={T__law_cells with fns:=((sO "_law_counted"),320,1,Cg)::T__law_cells.fns}
noncomputable def U5:Mn Fl:=(Ag (Ca (L8 (Af (A6 0) (Hl "int")) (zGK (Af (A6 0) (Hl "bool")))))
 (A8 .next))
noncomputable def Ej:List D->Mn D:=D2 [0] U5
noncomputable def T__law_whole:Tb:={T__law_counted with fns:=((sO "_law_whole"),272,1,Ej)::T__law_counted.fns}
noncomputable def zCJ:Mn Fl:=(Ag (Ex (Ms (Hp (Af (Af (A6 0) (Hl "tuple")) B5)) (Ms (C1 Ho (Af (A9 (A6 0) Ai) Cf) (A8 (.int 3))) (Ms (Hp (Af (Af (A9 (Ad Aj (A6 0) (A8 (.int 0))) Ai) Ej) B5)) (Hp (Af (Af (A9 (Ad Aj (A6 0) (A8 (.int 1))) Ai) Ej) B5))))) (Ag (Ca (A8 (.bool false)))
 (A8 .next)) (A8 .next))
 (Ag (Ex (Ms (C1 Ho (Ad Aj (A6 0) (A8 (.int 0))) (A6 1)) (Ms (C1 Ho (Ad Aj (A6 0) (A8 (.int 1))) (A6 2)) (Ms (Hp (Af (Af (Ad Aj (A6 0) (A8 (.int 2))) (Hl "list")) B5)) (C1 Ho (Af (A9 (Ad Aj (A6 0) (A8 (.int 2))) Ai) Cf) (Af (A9 (A6 3) Ai) Cf))))) (Ag (Ca (A8 (.bool false)))
 (A8 .next)) (A8 .next))
 (Ag (Af (Af (A9 (Ad Aj (A6 0) (A8 (.int 2))) (A9 (A6 3) Ai)) Za) λsrc=>By (Jg 2 (Bl (As 4) (Bl (As 5) Fz))) src.g (Ag (Ex (Ms (Hp (Af (Af (A6 4) (Hl "tuple")) B5)) (Ms (C1 Ho (Af (A9 (A6 4) Ai) Cf) (A8 (.int 5))) (Ms (Hp (Af (Af (Ad Aj (A6 4) (A8 (.int 4))) (Hl "str")) B5)) (C1 Ho (Ad Aj (A6 4) (A8 (.int 4))) (Ad Aj (A6 5) (A8 (.int 4))))))) (Ag (Ca (A8 (.bool false)))
 (A8 .next)) (A8 .next))
 (Ag (Af (Af (A9 (A8 (.int 4)) Ai) Cj) λsrc=>By (As 6) src.g (Ag (Ex (Ms (Hp (Af (Af (A9 (Ad Aj (A6 4) (A6 6)) Ai) Ej) B5)) (C1 Ho (Ad Aj (A6 4) (A6 6)) (Ad Aj (A6 5) (A6 6)))) (Ag (Ca (A8 (.bool false)))
 (A8 .next)) (A8 .next))
 (A8 .next)) src.ds)
 (A8 .next))) src.ds)
 (Ag (Ca (A8 (.bool true)))
 (A8 .next)))))
noncomputable def K6:List D->Mn D:=D2 [0,1,2,3] zCJ
noncomputable def T__law_is:Tb:={T__law_whole with fns:=((sO "_law_is"),327,2,K6)::T__law_whole.fns}
noncomputable def zGv:Mn Fl:=(Ag (Af (Cs (A9 (A8 (.int 0)) Ai)) (Ah 2))
 (Ag (Af (Af (A9 (A8 (.int 1)) (A9 (Ad B0 (A6 0) (A8 (.int 1))) Ai)) Cj) λsrc=>By (As 3) src.g (Ag (Af (Ad B0 (Ad Aj (A6 2) (Ad H2 (A6 3) (A8 (.int 1)))) (A8 (.int 2))) (Ah 4))
 (Ag (Af (Af (A6 1) Bq) λsrc=>By (Jg 3 (Bl (As 5) (Bl (As 6) (Bl (As 7) Fz)))) src.g (Ag (Ex (C1 F2 (A6 6) (A6 3)) (Ag (Af (Af (A9 (A6 4) (A9 (Ad B0 (Ad Aj (A6 2) (A6 5)) (A6 7)) Ai)) Yi) (Ah 4))
 (A8 .next)) (A8 .next))
 (A8 .next)) src.ds)
 (Ag (Af (Af (A6 2) (Dh λk=>Af (A6 4) (Bt k))) Ct)
 (A8 .next)))) src.ds)
 (Ag (Ca (A6 2))
 (A8 .next))))
noncomputable def M6:List D->Mn D:=D2 [0,1] zGv
noncomputable def T_lines:Tb:={T__law_is with fns:=((sO "lines"),40,1,M6)::T__law_is.fns}
noncomputable def Yc:Mn Fl:=(Ag (Ca (Af (A6 0) (strM λx=>Af (A9 (A8 (.str (sO "\n"))) Ai) (Mx x))))
 (A8 .next))
noncomputable def E8:List D->Mn D:=D2 [0] Yc
noncomputable def T_lines_of:Tb:={T_lines with fns:=((sO "lines_of"),21,1,E8)::T_lines.fns}
noncomputable def zBO:Mn Fl:=(Ag (Ca (Af (A9 (Af (Af (Af (A9 (A6 0) Ai) E8) Bq) (C7 [1] (As 1) (A8 true) (Af (A9 (A6 1) Ai) Cf))) Ai) Yi))
 (A8 .next))
noncomputable def Nk:List D->Mn D:=D2 [0] zBO
noncomputable def T_longest:Tb:={T_lines_of with fns:=((sO "longest"),26,2,Nk)::T_lines_of.fns}
noncomputable def zCi:Mn Fl:=(Ag (Af (Af (Af (Ad Aj (A6 0) (A8 (.int 2))) Bq) (C7 [2] (As 2) (A8 true) (D6 (A9 (Ad Aj (A6 2) (A8 (.int 1))) (A9 (Ad B0 (Ad Aj (A6 2) (A8 (.int 1))) (Ad Aj (A6 2) (A8 (.int 3)))) (A9 (Ad B0 (A8 (.int 3)) (Af (A9 (Ad Aj (A6 2) (A8 (.int 4))) Ai) Nk)) Ai)))))) (Ah 1))
 (Ag (Ca (Af (A9 (Ad Aj (A6 0) (A8 (.int 1))) (A9 (A6 1) Ai)) M6))
 (A8 .next)))
noncomputable def Lr:List D->Mn D:=D2 [0] zCi
noncomputable def T_across:Tb:={T_longest with fns:=((sO "across"),45,3,Lr)::T_longest.fns}
noncomputable def zLL:Mn Fl:=(Ag (Af (Af (Af (Ad Aj (A6 0) (A8 (.int 2))) Bq) (C7 [2] (As 2) (A8 true) (D6 (A9 (Ad Aj (A6 2) (A8 (.int 0))) (A9 (Ad B0 (Ad Aj (A6 2) (A8 (.int 0))) (Ad Aj (A6 2) (A8 (.int 2)))) (A9 (Ad B0 (A8 (.int 2)) (Af (A9 (Af (A9 (Ad Aj (A6 2) (A8 (.int 4))) Ai) E8) Ai) Cf)) Ai)))))) (Ah 1))
 (Ag (Ca (Af (A9 (Ad Aj (A6 0) (A8 (.int 0))) (A9 (A6 1) Ai)) M6))
 (A8 .next)))
noncomputable def T4:List D->Mn D:=D2 [0] zLL
noncomputable def T_down:Tb:={T_across with fns:=((sO "down"),50,2,T4)::T_across.fns}
noncomputable def Lv:Mn Fl:=(Ag (Af (Af (A9 (Ad B0 (A6 2) (A8 (.int 1))) (A9 (A6 4) Ai)) Cj) λsrc=>By (As 5) src.g (Ag (Af (Af (D6 (A9 (A6 1) (A9 (A6 3) Ai))) Bq) λsrc=>By (As 6) src.g (Ag (Ex (C1 Ho (Ad Aj (Ad Aj (A6 0) (A6 6)) (A6 5)) (A8 (.str (sO "+")))) (Ag (J1 (A8 (.str (sO "-"))) (Ad Aj (A6 0) (A6 6)) (A6 5))
 (A8 .next)) (A8 .next))
 (A8 .next)) src.ds)
 (A8 .next)) src.ds)
 (Ag (Af (Af (A9 (Ad B0 (A6 1) (A8 (.int 1))) (A9 (A6 3) Ai)) Cj) λsrc=>By (As 6) src.g (Ag (Af (Af (D6 (A9 (A6 2) (A9 (A6 4) Ai))) Bq) λsrc=>By (As 5) src.g (Ag (Ex (C1 Ho (Ad Aj (Ad Aj (A6 0) (A6 6)) (A6 5)) (A8 (.str (sO "+")))) (Ag (J1 (A8 (.str (sO "|"))) (Ad Aj (A6 0) (A6 6)) (A6 5))
 (A8 .next)) (A8 .next))
 (A8 .next)) src.ds)
 (A8 .next)) src.ds)
 (A8 .next)))
noncomputable def Gf:List D->Mn D:=D2 [0,1,2,3,4] Lv
noncomputable def T_draw_edges:Tb:={T_down with fns:=((sO "draw_edges"),203,1,Gf)::T_down.fns}
noncomputable def Nm:Mn Fl:=(Ag (Af (Ad B0 (A6 1) (A8 (.int 2))) (Ah 4))
 (Ag (Af (Af (Af (A9 (A6 3) Ai) E8) Bq) λsrc=>By (As 5) src.g (Ag (Af (Ad B0 (A6 2) (A8 (.int 2))) (Ah 6))
 (Ag (Af (Af (A6 5) Bq) λsrc=>By (As 7) src.g (Ag (J1 (A6 7) (Ad Aj (A6 0) (A6 4)) (A6 6))
 (Ag (Af (Ad B0 (A6 6) (A8 (.int 1))) (Ah 6))
 (A8 .next))) src.ds)
 (Ag (Af (Ad B0 (A6 4) (A8 (.int 1))) (Ah 4))
 (A8 .next)))) src.ds)
 (A8 .next)))
noncomputable def H9:List D->Mn D:=D2 [0,1,2,3] Nm
noncomputable def T_draw_text:Tb:={T_draw_edges with fns:=((sO "draw_text"),210,2,H9)::T_draw_edges.fns}
noncomputable def P1:Mn Fl:=(Ag (Ca (Af (A9 (A6 0) Ai) (λds=>Af (zBl 0 Kk 53 29 (sO "in_order.<locals>.<lambda>")) λ_=>E4 (zF0 (D6 (A9 (Ad Aj (A6 0) (A8 (.int 0))) (A9 (Ad Aj (A6 0) (A8 (.int 1))) Ai)))) ds)))
 (A8 .next))
noncomputable def Iu:List D->Mn D:=D2 [0] P1
noncomputable def T_in_order:Tb:={T_draw_text with fns:=((sO "in_order"),149,3,Iu)::T_draw_text.fns}
noncomputable def zKB:Mn Fl:=(Ag (Af (Cs (A9 (A8 (.int 0)) Ai)) (Ah 2))
 (Ag (Af (Af (A9 (A6 0) Ai) Cj) λsrc=>By (As 3) src.g (Ag (Ex (Ms (C1 F2 (A6 3) (A8 (.int 0))) (C1 zIq (A6 3) (A6 1))) (Ag (Af (Af (A6 2) (Dh λk=>Af (Ad B0 (Ad Aj (A6 2) (A6 3)) (A8 (.int 1))) (Bt k))) Ct)
 (A8 .next)) (Ag (Af (Af (A6 2) (Dh λk=>Af (Ad Aj (A6 2) (A6 3)) (Bt k))) Ct)
 (A8 .next)))
 (A8 .next)) src.ds)
 (Ag (Ca (A6 2))
 (A8 .next))))
noncomputable def Sm:List D->Mn D:=D2 [0,1] zKB
noncomputable def T_kept:Tb:={T_in_order with fns:=((sO "kept"),191,1,Sm)::T_in_order.fns}
noncomputable def zAi:Mn Fl:=(Ag (Af (Af (A9 (Ad Aj (A6 0) (A8 (.int 0))) (A9 (Af (Af (Ad Aj (A6 0) (A8 (.int 2))) Bq) (C7 [11] (As 11) (A8 true) (Ad Aj (A6 11) (A8 (.int 0))))) Ai)) Sm) (Ah 1))
 (Ag (Af (Af (A9 (Ad Aj (A6 0) (A8 (.int 1))) (A9 (Af (Af (Ad Aj (A6 0) (A8 (.int 2))) Bq) (C7 [11] (As 11) (A8 true) (Ad Aj (A6 11) (A8 (.int 1))))) Ai)) Sm) (Ah 2))
 (Ag (Af (Cs Ai) (Ah 3))
 (Ag (Af (Af (Ad Aj (A6 0) (A8 (.int 2))) Bq) λsrc=>By (Jg 5 (Bl (As 4) (Bl (As 5) (Bl (As 6) (Bl (As 7) (Bl (As 8) Fz)))))) src.g (Ag (Af (Ad H2 (Ad Aj (A6 1) (Ad B0 (A6 4) (A6 6))) (Ad Aj (A6 1) (A6 4))) (Ah 9))
 (Ag (Af (Ad H2 (Ad Aj (A6 2) (Ad B0 (A6 5) (A6 7))) (Ad Aj (A6 2) (A6 5))) (Ah 10))
 (Ag (Af (Af (A6 3) (Dh λk=>Af (D6 (A9 (Ad Aj (A6 1) (A6 4)) (A9 (Ad Aj (A6 2) (A6 5)) (A9 (A6 9) (A9 (A6 10) (A9 (A6 8) Ai)))))) (Bt k))) Ct)
 (A8 .next)))) src.ds)
 (Ag (Ca (D6 (A9 (Ad Aj (A6 1) (Ad Aj (A6 0) (A8 (.int 0)))) (A9 (Ad Aj (A6 2) (Ad Aj (A6 0) (A8 (.int 1)))) (A9 (Af (A9 (A6 3) Ai) Iu) Ai)))))
 (A8 .next))))))
noncomputable def Oo:List D->Mn D:=D2 [0] zAi
noncomputable def T_tight:Tb:={T_kept with fns:=((sO "tight"),196,4,Oo)::T_kept.fns}
noncomputable def zGF:Mn Fl:=(Ag (Af (Af (A9 (A6 0) Ai) Oo) (Ah 0))
 (Ag (Af (Af (A9 (A6 0) Ai) Lr) (Ah 1))
 (Ag (Af (Af (A9 (A6 0) Ai) T4) (Ah 2))
 (Ag (Af (Af (Af (A9 (Ad B0 (Ad Aj (A6 2) (Ad Aj (A6 0) (A8 (.int 0)))) (A8 (.int 1))) Ai) Cj) (C7 [17] (As 17) (A8 true) (Ad Ey (Cs (A9 (A8 (.str (sO " "))) Ai)) (Ad B0 (Ad Aj (A6 1) (Ad Aj (A6 0) (A8 (.int 1)))) (A8 (.int 1)))))) (Ah 3))
 (Ag (Af (Cs Ai) (Ah 4))
 (Ag (Af (Af (Ad Aj (A6 0) (A8 (.int 2))) Bq) λsrc=>By (Jg 5 (Bl (As 5) (Bl (As 6) (Bl (As 7) (Bl (As 8) (Bl (As 9) Fz)))))) src.g (Ag (Af (Af (A6 4) (Dh λk=>Af (D6 (A9 (Ad Aj (A6 2) (A6 5)) (A9 (Ad Aj (A6 1) (A6 6)) (A9 (Ad Aj (A6 2) (Ad B0 (A6 5) (A6 7))) (A9 (Ad Aj (A6 1) (Ad B0 (A6 6) (A6 8))) Ai))))) (Bt k))) Ct)
 (A8 .next)) src.ds)
 (Ag (Af (Af (A6 4) Bq) λsrc=>By (Jg 4 (Bl (As 10) (Bl (As 11) (Bl (As 12) (Bl (As 13) Fz))))) src.g (Ag (Af (Af (D6 (A9 (A6 10) (A9 (A6 12) Ai))) Bq) λsrc=>By (As 14) src.g (Ag (J1 (A8 (.str (sO "+"))) (Ad Aj (A6 3) (A6 14)) (A6 11))
 (Ag (J1 (A8 (.str (sO "+"))) (Ad Aj (A6 3) (A6 14)) (A6 13))
 (A8 .next))) src.ds)
 (A8 .next)) src.ds)
 (Ag (Af (Af (A6 4) Bq) λsrc=>By (Jg 4 (Bl (As 10) (Bl (As 11) (Bl (As 12) (Bl (As 13) Fz))))) src.g (Ag (Af (Af (A9 (A6 3) (A9 (A6 10) (A9 (A6 11) (A9 (A6 12) (A9 (A6 13) Ai))))) Gf) Ct)
 (A8 .next)) src.ds)
 (Ag (Af (Af (A9 (A6 4) (A9 (Ad Aj (A6 0) (A8 (.int 2))) Ai)) Za) λsrc=>By (Jg 2 (Bl (As 15) (Bl (As 16) Fz))) src.g (Ag (Af (Af (A9 (A6 3) (A9 (Ad Aj (A6 15) (A8 (.int 0))) (A9 (Ad Aj (A6 15) (A8 (.int 1))) (A9 (Ad Aj (A6 16) (A8 (.int 4))) Ai)))) H9) Ct)
 (A8 .next)) src.ds)
 (Ag (Ca (Af (A8 (.str (sO "\n"))) (strM λx=>Af (A9 (Af (Af (A6 3) Bq) (C7 [18] (As 18) (A8 true) (Af (A8 (.str (Str.ofString ""))) (strM λx=>Af (A9 (A6 18) Ai) (Gm x))))) Ai) (Gm x))))
 (A8 .next)))))))))))
noncomputable def Hb:List D->Mn D:=D2 [0] zGF
noncomputable def T_drawn:Tb:={T_tight with fns:=((sO "drawn"),215,5,Hb)::T_tight.fns}
noncomputable def Ra:Mn Fl:=(Ag (Ex (Oa (C1 Qk (A6 1) (Af (A9 (A6 0) Ai) Cf)) (C1 Qk (A6 2) (Af (A9 (Ad Aj (A6 0) (A6 1)) Ai) Cf))) (Ag (Ca (Ad Aj (Ad Aj (A6 0) (A6 1)) (A6 2)))
 (A8 .next)) (A8 .next))
 (Ag (Ca (A8 (.str (Str.ofString ""))))
 (A8 .next)))
noncomputable def Dx:List D->Mn D:=D2 [0,1,2] Ra
noncomputable def T_sign_at:Tb:={T_drawn with fns:=((sO "sign_at"),222,1,Dx)::T_drawn.fns}
noncomputable def Vs:Mn Fl:=(Ag (Ca (L8 (Ad F2 (Af (A9 (A6 0) (A9 (A6 1) (A9 (A6 2) Ai))) Dx) (A8 (.str (sO "+")))) (L8 (Ad F2 (Af (A9 (A6 0) (A9 (A6 1) (A9 (Ad B0 (A6 2) (A8 (.int 1))) Ai))) Dx) (A8 (.str (sO "-")))) (Ad F2 (Af (A9 (A6 0) (A9 (Ad B0 (A6 1) (A8 (.int 1))) (A9 (A6 2) Ai))) Dx) (A8 (.str (sO "|")))))))
 (A8 .next))
noncomputable def Jd:List D->Mn D:=D2 [0,1,2] Vs
noncomputable def T_begins:Tb:={T_sign_at with fns:=((sO "begins"),229,2,Jd)::T_sign_at.fns}
noncomputable def W9:Mn Fl:=(Ag (Af (Ad B0 (A6 2) (A8 (.int 1))) (Ah 3))
 (Ag (Gn (C1 Ho (Af (A9 (A6 0) (A9 (Ad B0 (A6 1) (A8 (.int 1))) (A9 (A6 3) Ai))) Dx) (A8 (.str (sO "|")))) (Ag (Ex (C1 F2 (Af (A9 (A6 0) (A9 (Ad B0 (A6 1) (A8 (.int 1))) (A9 (A6 3) Ai))) Dx) (A8 (.str (Str.ofString "")))) (Ag botM
 (A8 .next)) (A8 .next))
 (Ag (Af (Ad B0 (A6 3) (A8 (.int 1))) (Ah 3))
 (A8 .next))))
 (Ag (Af (Ad B0 (A6 1) (A8 (.int 1))) (Ah 4))
 (Ag (Gn (C1 Ho (Af (A9 (A6 0) (A9 (A6 4) (A9 (Ad B0 (A6 2) (A8 (.int 1))) Ai))) Dx) (A8 (.str (sO "-")))) (Ag (Ex (C1 F2 (Af (A9 (A6 0) (A9 (A6 4) (A9 (Ad B0 (A6 2) (A8 (.int 1))) Ai))) Dx) (A8 (.str (Str.ofString "")))) (Ag botM
 (A8 .next)) (A8 .next))
 (Ag (Af (Ad B0 (A6 4) (A8 (.int 1))) (Ah 4))
 (A8 .next))))
 (Ag (Ca (D6 (A9 (A6 1) (A9 (A6 2) (A9 (A6 4) (A9 (A6 3) Ai))))))
 (A8 .next))))))
noncomputable def Mp:List D->Mn D:=D2 [0,1,2] W9
noncomputable def T_box_at:Tb:={T_begins with fns:=((sO "box_at"),236,2,Mp)::T_begins.fns}
noncomputable def P2:Mn Fl:=(Ag (Ex (Hp (Af (Af (A9 (A6 0) (A9 (A8 (.int 0)) (A9 (A8 (.int 0)) Ai))) Jd) B5)) (Ag botM
 (A8 .next)) (A8 .next))
 (Ag (Af (T7 (D6 (A9 (A8 (.int 0)) (A9 (A8 (.int 0)) Ai))) (A8 (.bool true))) (Ah 1))
 (Ag (Af (Cs Ai) (Ah 2))
 (Ag (Af (Cs (A9 (D6 (A9 (A8 (.int 0)) (A9 (A8 (.int 0)) Ai))) Ai)) (Ah 3))
 (Ag (Gn (C1 zCn (Af (A9 (A6 3) Ai) Cf) (A8 (.int 0))) (Ag (Af (Af (A6 3) (Dh Yk)) (Ah 4))
 (Ag (Af (Af (A9 (A6 0) (A9 (Ad Aj (A6 4) (A8 (.int 0))) (A9 (Ad Aj (A6 4) (A8 (.int 1))) Ai))) Mp) (Ah 5))
 (Ag (Af (Af (A6 2) (Dh λk=>Af (A6 5) (Bt k))) Ct)
 (Ag (Ex (C1 zCn (Af (A9 (A6 2) Ai) Cf) (Ad Ey (A8 (.int 20)) (A8 (.int 20)))) (Ag botM
 (A8 .next)) (A8 .next))
 (Ag (Af (Af (D6 (A9 (D6 (A9 (Ad Aj (A6 5) (A8 (.int 0))) (A9 (Ad Aj (A6 5) (A8 (.int 3))) Ai))) (A9 (D6 (A9 (Ad Aj (A6 5) (A8 (.int 2))) (A9 (Ad Aj (A6 5) (A8 (.int 1))) Ai))) Ai))) Bq) λsrc=>By (As 6) src.g (Ag (Ex (Oa (C1 Pf (A6 6) (A6 1)) (Af (Af (A9 (A6 0) (A9 (Ad Aj (A6 6) (A8 (.int 0))) (A9 (Ad Aj (A6 6) (A8 (.int 1))) Ai))) Jd) B5)) (Ag (J1 (A8 (.bool true)) (A6 1) (A6 6))
 (Ag (Af (Af (A6 3) (Dh λk=>Af (A6 6) (Bt k))) Ct)
 (A8 .next))) (A8 .next))
 (A8 .next)) src.ds)
 (A8 .next)))))))
 (Ag (Ca (A6 2))
 (A8 .next)))))))
noncomputable def Kx:List D->Mn D:=D2 [0] P2
noncomputable def T_boxes_of:Tb:={T_box_at with fns:=((sO "boxes_of"),243,3,Kx)::T_box_at.fns}
noncomputable def Yg:Mn Fl:=(Ag (Ca (L8 (Af (A6 0) (Hl "int")) (zGK (Af (A6 0) (Hl "bool")))))
 (A8 .next))
noncomputable def L7:List D->Mn D:=D2 [0] Yg
noncomputable def T_is_whole:Tb:={T_boxes_of with fns:=((sO "is_whole"),142,1,L7)::T_boxes_of.fns}
noncomputable def zB2:Mn Fl:=(Ag (Ca (L8 (Af (A9 (A6 0) Ai) L7) (L8 (Ad zLl (A8 (.int 1)) (A6 0)) (Ad zLl (A6 0) (A8 (.int 20))))))
 (A8 .next))
noncomputable def Kc:List D->Mn D:=D2 [0] zB2
noncomputable def T_is_size:Tb:={T_is_whole with fns:=((sO "is_size"),156,2,Kc)::T_is_whole.fns}
noncomputable def zB9:Mn Fl:=(Ag (Ex (Ms (Hp (Af (Af (A6 0) (Hl "str")) B5)) (Ms (C1 zCn (Af (A9 (A6 0) Ai) Cf) (A8 (.int 200))) (Af (Af (A6 0) (strM λx=>Af (A9 (A8 (.str (sO "\n"))) Ai) (Hs x))) B5))) (Ag (Ca (A8 (.bool false)))
 (A8 .next)) (A8 .next))
 (Ag (Af (Af (Af (A9 (A6 0) Ai) E8) Bq) λsrc=>By (As 1) src.g (Ag (Ex (Af (Af (A6 1) (strM λx=>Af (A9 (A8 (.str (sO " "))) Ai) (Hs x))) B5) (Ag (Ca (A8 (.bool false)))
 (A8 .next)) (A8 .next))
 (Ag (Af (Af (A6 1) Bq) λsrc=>By (As 2) src.g (Ag (Ex (Ms (C1 Qk (A6 2) (A8 (.str (sO " ")))) (C1 zCn (A6 2) (A8 (.str (sO "~"))))) (Ag (Ca (A8 (.bool false)))
 (A8 .next)) (A8 .next))
 (A8 .next)) src.ds)
 (A8 .next))) src.ds)
 (Ag (Ca (A8 (.bool true)))
 (A8 .next))))
noncomputable def Mu:List D->Mn D:=D2 [0] zB9
noncomputable def T_is_good:Tb:={T_is_size with fns:=((sO "is_good"),33,2,Mu)::T_is_size.fns}
noncomputable def zBW:Mn Fl:=(Ag (Af (Af (D6 (A9 (A6 2) (A9 (A6 3) (A9 (A6 4) (A9 (A6 5) Ai))))) Bq) λsrc=>By (As 6) src.g (Ag (Ex (Hp (Af (Af (A9 (A6 6) Ai) L7) B5)) (Ag (Ca (A8 (.bool false)))
 (A8 .next)) (A8 .next))
 (A8 .next)) src.ds)
 (Ag (Ex (Ms (C1 Qk (A6 2) (A8 (.int 0))) (Ms (C1 Qk (A6 3) (A8 (.int 0))) (Ms (C1 Qk (A6 4) (A8 (.int 1))) (C1 Qk (A6 5) (A8 (.int 1)))))) (Ag (Ca (A8 (.bool false)))
 (A8 .next)) (A8 .next))
 (Ag (Ca (L8 (Ad zLl (Ad B0 (A6 2) (A6 4)) (A6 0)) (Ad zLl (Ad B0 (A6 3) (A6 5)) (A6 1))))
 (A8 .next))))
noncomputable def N5:List D->Mn D:=D2 [0,1,2,3,4,5] zBW
noncomputable def T_lies_in:Tb:={T_is_good with fns:=((sO "lies_in"),163,2,N5)::T_is_good.fns}
noncomputable def R1:Mn Fl:=(Ag (Ex (Ms (Hp (Af (Af (A6 0) (Hl "tuple")) B5)) (C1 Ho (Af (A9 (A6 0) Ai) Cf) (A8 (.int 5)))) (Ag botM
 (A8 .next)) (A8 .next))
 (Ag (Ex (Hp (Af (Af (A9 (A6 1) (A9 (A6 2) (A9 (Ad Aj (A6 0) (A8 (.int 0))) (A9 (Ad Aj (A6 0) (A8 (.int 1))) (A9 (Ad Aj (A6 0) (A8 (.int 2))) (A9 (Ad Aj (A6 0) (A8 (.int 3))) Ai)))))) N5) B5)) (Ag botM
 (A8 .next)) (A8 .next))
 (Ag (Ex (Hp (Af (Af (A9 (Ad Aj (A6 0) (A8 (.int 4))) Ai) Mu) B5)) (Ag botM
 (A8 .next)) (A8 .next))
 (A8 .next))))
noncomputable def N8:List D->Mn D:=D2 [0,1,2] R1
noncomputable def T_look_at:Tb:={T_lies_in with fns:=((sO "look_at"),177,3,N8)::T_lies_in.fns}
noncomputable def M5:Mn Fl:=(Ag (Af (Cs Ai) (Ah 1))
 (Ag (Af (Af (A9 (Ad Aj (A6 0) (A8 (.int 0))) (A9 (Ad B0 (Ad Aj (A6 0) (A8 (.int 0))) (Ad Aj (A6 0) (A8 (.int 2)))) Ai)) Cj) λsrc=>By (As 2) src.g (Ag (Af (Af (A9 (Ad Aj (A6 0) (A8 (.int 1))) (A9 (Ad B0 (Ad Aj (A6 0) (A8 (.int 1))) (Ad Aj (A6 0) (A8 (.int 3)))) Ai)) Cj) λsrc=>By (As 3) src.g (Ag (Af (Af (A6 1) (Dh λk=>Af (D6 (A9 (A6 2) (A9 (A6 3) Ai))) (Bt k))) Ct)
 (A8 .next)) src.ds)
 (A8 .next)) src.ds)
 (Ag (Ca (A6 1))
 (A8 .next))))
noncomputable def G0:List D->Mn D:=D2 [0] M5
noncomputable def T_squares_of:Tb:={T_look_at with fns:=((sO "squares_of"),170,1,G0)::T_look_at.fns}
noncomputable def zCx:Mn Fl:=(Ag (Ex (Ms (Hp (Af (Af (A9 (A6 0) Ai) Kc) B5)) (Hp (Af (Af (A9 (A6 1) Ai) Kc) B5))) (Ag botM
 (A8 .next)) (A8 .next))
 (Ag (Af (Af (A6 2) Bq) λsrc=>By (As 3) src.g (Ag (Af (Af (A9 (A6 3) (A9 (A6 0) (A9 (A6 1) Ai))) N8) Ct)
 (A8 .next)) src.ds)
 (Ag (Af (Tw (.dict [])) (Ah 4))
 (Ag (Af (Af (A6 2) Bq) λsrc=>By (As 3) src.g (Ag (Af (Af (Af (A9 (A6 3) Ai) G0) Bq) λsrc=>By (As 5) src.g (Ag (Ex (C1 zIq (A6 5) (A6 4)) (Ag botM
 (A8 .next)) (A8 .next))
 (Ag (J1 (A8 (.bool true)) (A6 4) (A6 5))
 (A8 .next))) src.ds)
 (A8 .next)) src.ds)
 (Ag (Ex (C1 Qk (Af (A9 (A6 4) Ai) Cf) (Ad Ey (A6 0) (A6 1))) (Ag botM
 (A8 .next)) (A8 .next))
 (Ag (Ca (D6 (A9 (A6 0) (A9 (A6 1) (A9 (Af (A9 (A6 2) Ai) Iu) Ai)))))
 (A8 .next)))))))
noncomputable def Xv:List D->Mn D:=D2 [0,1,2] zCx
noncomputable def T_made:Tb:={T_squares_of with fns:=((sO "made"),184,4,Xv)::T_squares_of.fns}
noncomputable def Vn:Mn Fl:=(Ag (Ca (Af (A9 (Af (Af (A6 0) Bq) (C7 [2] (As 2) (C1 Qk (A6 2) (A6 1)) (A6 2))) Ai) Cf))
 (A8 .next))
noncomputable def Cy:List D->Mn D:=D2 [0,1] Vn
noncomputable def T_number_of:Tb:={T_made with fns:=((sO "number_of"),253,1,Cy)::T_made.fns}
noncomputable def Rr:Mn Fl:=(Ag (Af (Af (Af (A9 (Ad B0 (Ad Aj (A6 1) (A8 (.int 0))) (A8 (.int 2))) (A9 (Ad Aj (A6 1) (A8 (.int 2))) Ai)) Cj) (C7 [3] (As 3) (A8 true) (Af (Fb (Ad Aj (A6 0) (A6 3)) (some (Ad B0 (Ad Aj (A6 1) (A8 (.int 1))) (A8 (.int 2)))) (some (Ad Aj (A6 1) (A8 (.int 3))))) (strM λx=>Af (A9 (A8 (.str (sO " "))) Ai) (Og x))))) (Ah 2))
 (Ag (Gn (Oa (C1 zCn (Af (A9 (A6 2) Ai) Cf) (A8 (.int 0))) (C1 F2 (Ad Aj (A6 2) (Ad H2 (Af (A9 (A6 2) Ai) Cf) (A8 (.int 1)))) (A8 (.str (Str.ofString ""))))) (Ag (Af (Af (A6 2) (Dh Yk)) Ct)
 (A8 .next)))
 (Ag (Ca (Af (A8 (.str (sO "\n"))) (strM λx=>Af (A9 (A6 2) Ai) (Gm x))))
 (A8 .next))))
noncomputable def Kd:List D->Mn D:=D2 [0,1] Rr
noncomputable def T_text_in:Tb:={T_number_of with fns:=((sO "text_in"),248,1,Kd)::T_number_of.fns}
noncomputable def Pr:Mn Fl:=(Ag (Af (Af (A9 (A6 0) Ai) Kx) (Ah 1))
 (Ag (Af (Af (Ad B0 (Af (Af (A6 1) Bq) (C7 [5] (As 5) (A8 true) (Ad Aj (A6 5) (A8 (.int 0))))) (Af (Af (A6 1) Bq) (C7 [5] (As 5) (A8 true) (Ad Aj (A6 5) (A8 (.int 2)))))) Ht) (Ah 2))
 (Ag (Af (Af (Ad B0 (Af (Af (A6 1) Bq) (C7 [5] (As 5) (A8 true) (Ad Aj (A6 5) (A8 (.int 1))))) (Af (Af (A6 1) Bq) (C7 [5] (As 5) (A8 true) (Ad Aj (A6 5) (A8 (.int 3)))))) Ht) (Ah 3))
 (Ag (Af (Cs Ai) (Ah 4))
 (Ag (Af (Af (A6 1) Bq) λsrc=>By (As 5) src.g (Ag (Af (Af (A9 (A6 2) (A9 (Ad Aj (A6 5) (A8 (.int 0))) Ai)) Cy) (Ah 6))
 (Ag (Af (Af (A9 (A6 3) (A9 (Ad Aj (A6 5) (A8 (.int 1))) Ai)) Cy) (Ah 7))
 (Ag (Af (Ad H2 (Af (A9 (A6 2) (A9 (Ad Aj (A6 5) (A8 (.int 2))) Ai)) Cy) (A6 6)) (Ah 8))
 (Ag (Af (Ad H2 (Af (A9 (A6 3) (A9 (Ad Aj (A6 5) (A8 (.int 3))) Ai)) Cy) (A6 7)) (Ah 9))
 (Ag (Af (Af (A6 4) (Dh λk=>Af (D6 (A9 (A6 6) (A9 (A6 7) (A9 (A6 8) (A9 (A6 9) (A9 (Af (A9 (A6 0) (A9 (A6 5) Ai)) Kd) Ai)))))) (Bt k))) Ct)
 (A8 .next)))))) src.ds)
 (Ag (Ca (Af (A9 (Ad H2 (Af (A9 (A6 2) Ai) Cf) (A8 (.int 1))) (A9 (Ad H2 (Af (A9 (A6 3) Ai) Cf) (A8 (.int 1))) (A9 (A6 4) Ai))) Xv))
 (A8 .next)))))))
noncomputable def La:List D->Mn D:=D2 [0] Pr
noncomputable def T_table_in:Tb:={T_text_in with fns:=((sO "table_in"),258,5,La)::T_text_in.fns}
noncomputable def zDv:Mn Fl:=(Ag (Ex (Hp (Af (Af (A6 0) (Hl "str")) B5)) (Ag botM
 (A8 .next)) (A8 .next))
 (Ag (Ag (Af (Af (A9 (Af (A6 0) (strM λx=>Af (A9 (A8 (.str (sO "\n"))) Ai) (Mx x))) Ai) La) (Ah 1))
 (A8 .next))
 (Ag (Ex (Ms (C1 Ho (Af (A9 (A6 1) Ai) Oo) (A6 1)) (C1 Ho (Af (A9 (A6 1) Ai) Hb) (A6 0))) (Ag botM
 (A8 .next)) (A8 .next))
 (Ag (Ca (A6 1))
 (A8 .next)))))
noncomputable def Y8:List D->Mn D:=D2 [0] zDv
noncomputable def T_read:Tb:={T_table_in with fns:=((sO "read"),265,6,Y8)::T_table_in.fns}
noncomputable def Wh:Mn Fl:=(Ag (Ag (Ca (Af (A9 (A6 0) Ai) Y8))
 (A8 .next))
 (A8 .next))
noncomputable def Jo:List D->Mn D:=D2 [0] Wh
noncomputable def T__law_read:Tb:={T_read with fns:=((sO "_law_read"),334,7,Jo)::T_read.fns}
noncomputable def Uh:Mn Fl:=(Ag (Ex (C1 F2 (Ad E1 (A6 0) (A8 (.int 3))) (A8 (.int 1))) (Ag (Ca (Ad B0 (A8 (.int 1)) (Ad E1 (Ad Hq (A6 0) (A8 (.int 9))) (A8 (.int 20)))))
 (A8 .next)) (A8 .next))
 (Ag (Ca (Ad B0 (A8 (.int 1)) (Ad E1 (Ad Hq (A6 0) (A8 (.int 9))) (A8 (.int 6)))))
 (A8 .next)))
noncomputable def H8:List D->Mn D:=D2 [0] Uh
noncomputable def Vv:Tb:={T__law_read with fns:=((sO "_law_size"),296,1,H8)::T__law_read.fns}
noncomputable def zMy:Mn Fl:=(Ag (Af (Af (A9 (Af (A9 (A6 0) (A9 (A8 (.int 0)) Ai)) Ef) Ai) H8) (Ah 1))
 (Ag (Af (Af (A9 (Af (A9 (A6 0) (A9 (A8 (.int 1)) Ai)) Ef) Ai) H8) (Ah 2))
 (Ag (Af (Ad F2 (Ad E1 (Af (A9 (A6 0) (A9 (A8 (.int 2)) Ai)) Ef) (A8 (.int 8))) (A8 (.int 5))) (Ah 3))
 (Ag (Ex (Af (A6 3) B5) (Ag (Af (Ad B0 (A8 (.int 6)) (Ad E1 (A6 1) (A8 (.int 4)))) (Ah 1))
 (Ag (Af (Ad B0 (A8 (.int 6)) (Ad E1 (A6 2) (A8 (.int 4)))) (Ah 2))
 (A8 .next))) (A8 .next))
 (Ag (Ex (C1 F2 (Ad E1 (Af (A9 (A6 0) (A9 (A8 (.int 2)) Ai)) Ef) (A8 (.int 64))) (A8 (.int 13))) (Ag (Af (Ad B0 (A6 1) (A8 (.int 5))) (Ah 1))
 (Ag (Af (Ad B0 (A6 2) (A8 (.int 5))) (Ah 2))
 (A8 .next))) (A8 .next))
 (Ag (Af (Af (A9 (A6 0) (A9 (A6 1) (A9 (A6 2) (A9 (A6 3) Ai)))) Ga) (Ah 4))
 (Ag (Af (Af (A9 (D6 (A9 (A6 1) (A9 (A6 2) (A9 (Af (A9 (A6 4) Ai) Mm) Ai)))) Ai) Hb) (Ah 5))
 (Ag (Af (Af (A9 (A6 4) (A9 (A6 1) (A9 (A8 (.int 0)) Ai))) Cg) (Ah 6))
 (Ag (Af (Af (A9 (A6 4) (A9 (A6 2) (A9 (A8 (.int 1)) Ai))) Cg) (Ah 7))
 (Ag (Af (Cs Ai) (Ah 8))
 (Ag (Af (Af (A6 4) Bq) λsrc=>By (As 9) src.g (Ag (Af (Ad H2 (Ad Aj (A6 6) (Ad B0 (Ad Aj (A6 9) (A8 (.int 0))) (Ad Aj (A6 9) (A8 (.int 2))))) (Ad Aj (A6 6) (Ad Aj (A6 9) (A8 (.int 0))))) (Ah 10))
 (Ag (Af (Af (A6 8) (Dh λk=>Af (D6 (A9 (Ad Aj (A6 6) (Ad Aj (A6 9) (A8 (.int 0)))) (A9 (Ad Aj (A6 7) (Ad Aj (A6 9) (A8 (.int 1)))) (A9 (A6 10) (A9 (Ad H2 (Ad Aj (A6 7) (Ad B0 (Ad Aj (A6 9) (A8 (.int 1))) (Ad Aj (A6 9) (A8 (.int 3))))) (Ad Aj (A6 7) (Ad Aj (A6 9) (A8 (.int 1))))) (A9 (Ad Aj (A6 9) (A8 (.int 4))) Ai)))))) (Bt k))) Ct)
 (A8 .next))) src.ds)
 (Ag (Af (Af (A9 (A6 5) Ai) Jo) (Ah 11))
 (Ag (Ex (Hp (Af (Af (A9 (A6 11) (A9 (Ad Aj (A6 6) (A6 1)) (A9 (Ad Aj (A6 7) (A6 2)) (A9 (A6 8) Ai)))) K6) B5)) (Ag (Ca (A8 (.bool false)))
 (A8 .next)) (A8 .next))
 (Ag (Ca (L8 (Af (A6 5) (Hl "str")) (Ad F2 (Af (A9 (A6 11) Ai) Hb) (A6 5))))
 (A8 .next)))))))))))))))
noncomputable def zET:List D->Mn D:=D2 [0] zMy
section
variable {G:Gd}{P:Params}(L:zDu G (Mine.Internal.hK P) 148 144)
include L
theorem Yx:C5 G T__law_at:=J4 L (zOp L) 44 279 278 [sO "_law_script",sO "_law_k"] [] 0 (sO "_law_at.<locals>.") (R7 (by intros;kernel_rfl)) (by kernel_rfl)
theorem P8:C5 G T__law_corner:=J4 L (Yx L) 49 310 309 [sO "_law_cell"] [] 0 (sO "_law_corner.<locals>.") (Ee (by intros;kernel_rfl)) (by kernel_rfl)
theorem Sj:C5 G T__law_line:=J4 L (P8 L) 45 284 283 [sO "_law_number",sO "_law_size_here"] [sO "_law_some",sO "_law_k"] 0 (sO "_law_line.<locals>.") (R7 (by intros;kernel_rfl)) (by kernel_rfl)
theorem Ub:C5 G T__law_text:=J4 L (Sj L) 46 289 288 [sO "_law_number"] [sO "_law_more",sO "_law_lines",sO "_law_k"] 1 (sO "_law_text.<locals>.") (Ee (by intros;kernel_rfl)) (by kernel_rfl)
theorem Qo:C5 G T__law_tiled:=J4 L (Ub L) 48 303 302 [sO "_law_rows",sO "_law_columns",sO "_law_numbers"] [sO "_law_free",sO "_law_boxes",sO "_law_k",sO "_law_row",sO "_law_left",sO "_law_run",sO "_law_number",sO "_law_wide",sO "_law_high"] 0 (sO "_law_tiled.<locals>.") (Qc (by intros;kernel_rfl)) (by kernel_rfl)
theorem Qm:C5 G T__law_cells:=J4 L (Qo L) 50 315 314 [sO "_law_script",sO "_law_rows",sO "_law_columns",sO "_law_grid"] [sO "_law_numbers",sO "_law_boxes",sO "_law_cells_here",sO "_law_k",sO "_law_box",sO "_law_text_here"] 2 (sO "_law_cells.<locals>.") (zDQ (by intros;kernel_rfl)) (by kernel_rfl)
theorem O8:C5 G T__law_counted:=J4 L (Qm L) 51 320 319 [sO "_law_cells_here",sO "_law_count",sO "_law_way"] [sO "_law_found",sO "_law_at_here",sO "_law_cell"] 0 (sO "_law_counted.<locals>.") (Qc (by intros;kernel_rfl)) (by kernel_rfl)
theorem Qn:C5 G T__law_whole:=J4 L (O8 L) 43 272 271 [sO "_law_found"] [] 0 (sO "_law_whole.<locals>.") (Ee (by intros;kernel_rfl)) (by kernel_rfl)
theorem Yq:C5 G T__law_is:=J4 L (Qn L) 52 327 326 [sO "_law_found",sO "_law_rows",sO "_law_columns",sO "_law_cells_here"] [sO "_law_one",sO "_law_due",sO "_law_k"] 1 (sO "_law_is.<locals>.") (zDQ (by intros;kernel_rfl)) (by kernel_rfl)
theorem zEp:C5 G T_lines:=J4 L (Yq L) 6 40 39 [sO "many",sO "spans"] [sO "found",sO "k",sO "place",sO "first",sO "behind",sO "room"] 0 (sO "lines.<locals>.") (R7 (by intros;kernel_rfl)) (by kernel_rfl)
theorem Ui:C5 G T_lines_of:=J4 L (zEp L) 2 21 20 [sO "text"] [] 0 (sO "lines_of.<locals>.") (Ee (by intros;kernel_rfl)) (by kernel_rfl)
theorem Y5:C5 G T_longest:=J4 L (Ui L) 3 26 25 [sO "text"] [sO "line"] 1 (sO "longest.<locals>.") (Ee (by intros;kernel_rfl)) (by kernel_rfl)
theorem zB0:C5 G T_across:=J4 L (Y5 L) 7 45 44 [sO "table"] [sO "spans",sO "cell"] 2 (sO "across.<locals>.") (Ee (by intros;kernel_rfl)) (by kernel_rfl)
theorem zHX:C5 G T_down:=J4 L (zB0 L) 8 50 49 [sO "table"] [sO "spans",sO "cell"] 1 (sO "down.<locals>.") (Ee (by intros;kernel_rfl)) (by kernel_rfl)
theorem Qu:C5 G T_draw_edges:=J4 L (zHX L) 30 203 202 [sO "signs",sO "north",sO "west",sO "south",sO "east"] [sO "x",sO "y"] 0 (sO "draw_edges.<locals>.") (zMH (by intros;kernel_rfl)) (by kernel_rfl)
theorem Uc:C5 G T_draw_text:=J4 L (Qu L) 31 210 209 [sO "signs",sO "north",sO "west",sO "text"] [sO "y",sO "line",sO "x",sO "sign"] 1 (sO "draw_text.<locals>.") (zDQ (by intros;kernel_rfl)) (by kernel_rfl)
theorem Vr:C5 G T_in_order:=J4 L (Uc L) 20 149 148 [sO "cells"] [] 2 (sO "in_order.<locals>.") (Ee (by intros;kernel_rfl)) (by kernel_rfl)
theorem zFy:C5 G T_kept:=J4 L (Vr L) 27 191 190 [sO "many",sO "begins"] [sO "found",sO "k"] 0 (sO "kept.<locals>.") (R7 (by intros;kernel_rfl)) (by kernel_rfl)
theorem zFi:C5 G T_tight:=J4 L (zFy L) 28 196 195 [sO "table"] [sO "rows",sO "columns",sO "cells",sO "top",sO "left",sO "high",sO "wide",sO "text",sO "tall",sO "broad",sO "cell"] 3 (sO "tight.<locals>.") (Ee (by intros;kernel_rfl)) (by kernel_rfl)
theorem zDG:C5 G T_drawn:=J4 L (zFi L) 32 215 214 [sO "table"] [sO "xs",sO "ys",sO "signs",sO "boxes",sO "top",sO "left",sO "high",sO "wide",sO "text",sO "north",sO "west",sO "south",sO "east",sO "y",sO "box",sO "cell",sO "k",sO "row"] 4 (sO "drawn.<locals>.") (Ee (by intros;kernel_rfl)) (by kernel_rfl)
theorem Xq:C5 G T_sign_at:=J4 L (zDG L) 34 222 221 [sO "rows",sO "y",sO "x"] [] 0 (sO "sign_at.<locals>.") (Qc (by intros;kernel_rfl)) (by kernel_rfl)
theorem zCQ:C5 G T_begins:=J4 L (Xq L) 35 229 228 [sO "rows",sO "y",sO "x"] [] 1 (sO "begins.<locals>.") (Qc (by intros;kernel_rfl)) (by kernel_rfl)
theorem zAv:C5 G T_box_at:=J4 L (zCQ L) 36 236 235 [sO "rows",sO "y",sO "x"] [sO "east",sO "south"] 1 (sO "box_at.<locals>.") (Qc (by intros;kernel_rfl)) (by kernel_rfl)
theorem W8:C5 G T_boxes_of:=J4 L (zAv L) 37 243 242 [sO "rows"] [sO "seen",sO "found",sO "waiting",sO "place",sO "box",sO "other"] 2 (sO "boxes_of.<locals>.") (Ee (by intros;kernel_rfl)) (by kernel_rfl)
theorem Wv:C5 G T_is_whole:=J4 L (W8 L) 19 142 141 [sO "value"] [] 0 (sO "is_whole.<locals>.") (Ee (by intros;kernel_rfl)) (by kernel_rfl)
theorem Yp:C5 G T_is_size:=J4 L (Wv L) 21 156 155 [sO "value"] [] 1 (sO "is_size.<locals>.") (Ee (by intros;kernel_rfl)) (by kernel_rfl)
theorem Y2:C5 G T_is_good:=J4 L (Yp L) 4 33 32 [sO "text"] [sO "line",sO "sign"] 1 (sO "is_good.<locals>.") (Ee (by intros;kernel_rfl)) (by kernel_rfl)
theorem Yy:C5 G T_lies_in:=J4 L (Y2 L) 22 163 162 [sO "rows",sO "columns",sO "top",sO "left",sO "high",sO "wide"] [sO "value"] 1 (sO "lies_in.<locals>.") (zLz (by intros;kernel_rfl)) (by kernel_rfl)
theorem Xu:C5 G T_look_at:=J4 L (Yy L) 24 177 176 [sO "cell",sO "rows",sO "columns"] [] 2 (sO "look_at.<locals>.") (Qc (by intros;kernel_rfl)) (by kernel_rfl)
theorem Qq:C5 G T_squares_of:=J4 L (Xu L) 23 170 169 [sO "cell"] [sO "found",sO "row",sO "column"] 0 (sO "squares_of.<locals>.") (Ee (by intros;kernel_rfl)) (by kernel_rfl)
theorem zIW:C5 G T_made:=J4 L (Qq L) 25 184 183 [sO "rows",sO "columns",sO "cells"] [sO "cell",sO "taken",sO "square"] 3 (sO "made.<locals>.") (Qc (by intros;kernel_rfl)) (by kernel_rfl)
theorem Ty:C5 G T_number_of:=J4 L (zIW L) 39 253 252 [sO "places",sO "place"] [sO "one"] 0 (sO "number_of.<locals>.") (R7 (by intros;kernel_rfl)) (by kernel_rfl)
theorem Xm:C5 G T_text_in:=J4 L (Ty L) 38 248 247 [sO "rows",sO "box"] [sO "lines",sO "y"] 0 (sO "text_in.<locals>.") (R7 (by intros;kernel_rfl)) (by kernel_rfl)
theorem Wu:C5 G T_table_in:=J4 L (Xm L) 40 258 257 [sO "rows"] [sO "boxes",sO "ys",sO "xs",sO "cells",sO "box",sO "top",sO "left",sO "high",sO "wide"] 4 (sO "table_in.<locals>.") (Ee (by intros;kernel_rfl)) (by kernel_rfl)
theorem zFx:C5 G T_read:=J4 L (Wu L) 41 265 264 [sO "text"] [sO "table"] 5 (sO "read.<locals>.") (Ee (by intros;kernel_rfl)) (by kernel_rfl)
theorem Sx:C5 G T__law_read:=J4 L (zFx L) 53 334 333 [sO "_law_text_here"] [] 6 (sO "_law_read.<locals>.") (Ee (by intros;kernel_rfl)) (by kernel_rfl)
theorem Ss:C5 G Vv:=J4 L (Sx L) 47 296 295 [sO "_law_number"] [] 0 (sO "_law_size.<locals>.") (Ee (by intros;kernel_rfl)) (by kernel_rfl)
theorem zKi:SF G 8 341 zET:=zOj L (Ss L) 54 341 340 [sO "_law_script"] [sO "_law_rows",sO "_law_columns",sO "_law_grid",sO "_law_cells_here",sO "_law_text_here",sO "_law_ys",sO "_law_xs",sO "_law_due",sO "_law_one",sO "_law_high",sO "_law_found"] 7 (sO "law.<locals>.") (Ee (by intros;kernel_rfl)) (by kernel_rfl)
end
end
noncomputable abbrev Sp:=Int×Int×Int
noncomputable def Gr (F:List Int)(k:Int)(p:Int)(s:Sp):Int:=if s.2.1=k then max p (F.getD s.1.toNat 0+s.2.2)else p
noncomputable def Ny (sp:List Sp)(F:List Int)(k:Int):Int:=sp.foldl (Gr F k) (F.getD (k - 1).toNat 0+2)
noncomputable def Ti (sp:List Sp):Prop:=∀s,s∈sp->0<=s.1/\s.1<s.2.1
structure Bp (sp:List Sp)(F:List Int):Prop where
 pos:1<=F.length
 zero:F[0]? =some 0
 step:∀k:Nat,1<=k->k<F.length->F.getD k 0=Ny sp F k
theorem Id{α β:Type}{f g:β->α->β}:∀(l:List α) (b:β),(∀b a,a∈l->f b a=g b a)->l.foldl f b=l.foldl g b
 |[],_,_=>rfl
 |a::l,b,h=>by rw[lJ2,lJ2,h b a lq1];exact Id l _ λb a m=>h b a (lq4 _ m)
theorem P3{F:List Int}{x:Int}{i:Nat}(h:i<F.length):(F++[x]).getD i 0=F.getD i 0:=by
 rw[lA2,lA2,lA6 h]
theorem zAq{sp:List Sp}(h:Ti sp){F:List Int}{x:Int}{k:Nat}(h1:1<=k)(h2:k<=F.length):Ny sp (F++[x]) k=Ny sp F k:=by
 unfold Ny;rw[P3 (by exact Jf (zIX (Ae x1 x0) [Ac x2 x0,eq1 x1 (.s x2 (.n 1))] rT (Cc h2) (D5 (H6 (Ac (.n 0) (.s x0 (.n 1))) [Ac (.n 1) x0] rT (Cc h1)))))];refine Id _ _ λp s m=>?_
 unfold Gr;split
 ·rename_i e;have:=h s m
  rw[P3 (by exact Jf (zNq (Ae x1 x0) [eq1 x3 x2,Ae x4 x3,Ac x2 x0,eq1 x1 x4] rT e this.2 (Cc h2) (D5 (this.1))))]
 ·rfl
theorem Bp.one(sp:List Sp):Bp sp [0]:=⟨by simp,rfl,λk h1 h2=>by simp at h2;exact False.elim (An [_] [Ac (.n 1) x0,eq1 x0 (.n 0)] rT h1 h2)⟩
theorem Bp.app{sp:List Sp}(h:Ti sp){F:List Int}(l:Bp sp F):Bp sp (F++[Ny sp F F.length]):=by
 refine⟨by simp,by rw[lA6 (by have:=l.pos;exact zE5 λhz=>An [_] [Ac x0 (.n 0),Ac (.n 1) x0] rT hz this)];exact l.zero,λk h1 h2=>?_⟩
 simp only[lq7,lI0,List.length_nil]at h2;rw[zAq h h1 (by exact X6 λhz=>An [_,_] [Ae x1 x0,Ae x0 (.a x1 (.a (.n 0) (.n 1)))] rT hz h2)]
 by_cases hk:k<F.length
 ·rw[P3 hk];exact l.step k h1 hk
 ·have:k=F.length:=by exact Du (λhz=>An [_,_] [Ae x0 x1,Ac x1 x0] rT hz (lN7.mp hk)) (λhz=>An [_,_] [Ae x1 x0,Ae x0 (.a x1 (.a (.n 0) (.n 1)))] rT hz h2)
  subst this;rw[lA2,lA3 (lN4 _)];simp
noncomputable def kq (b:Nat->Bool)(a:Nat):Nat->Nat
 |0=>0
 |n+1=>kq b a n+bif Nat.ble n a||b n then 1 else 0
theorem Ta:kq b a (n+1)=kq b a n+bif Nat.ble n a||b n then 1 else 0:=rfl
theorem zAk:∀x,x<=a+1->kq b a x=x
 |0,_=>rfl
 |x+1,h=>by
  have e:Nat.ble x a=true:=Nat.ble_eq.mpr (Nat.le_of_succ_le_succ h)
  unfold kq;rw[zAk x (Nat.le_of_succ_le h),e];rfl
theorem D9:∀y,x<=y->kq b a x<=kq b a y
 |0,h=>by rw[Nat.le_zero.mp h];exact lN4 _
 |y+1,h=>by
  rcases lF6 h with h|h
  ·exact lM7 (D9 y (lG8 h)) (lI4 ..)
  ·rw[h];exact lN4 _
theorem Nq(hb:b x=true∨x<=a)(h:x<y):kq b a x<kq b a y:=by
 refine lF5 ?_ (D9 y h)
 show _<kq b a x+_
 have:(Nat.ble x a||b x)=true:=by
  rcases hb with h|h
  ·rw[h,Bool.or_true]
  ·rw[Nat.ble_eq.mpr h,Bool.true_or]
 rw[this];exact lI5 _
theorem Uo:∀x,kq b a x<=x
 |0=>lN4 _
 |x+1=>by
  unfold kq;have:=Uo (b:=b) (a:=a) x
  cases(Nat.ble x a||b x)<;>first|exact Nat.le_succ_of_le this|exact lI6 this
theorem zEO:∀(R n:Nat),1<=n->n<kq b 0 R->∃t,t<R/\b t=true/\kq b 0 t=n
 |0,n,h1,h2=>absurd h2 (lJ9 _)
 |R+1,n,h1,h2=>by
  by_cases g:n<kq b 0 R
  ·obtain⟨t,h3,h4,h5⟩:=zEO R n h1 g;exact⟨t,lH0 h3,h4,h5⟩
  ·unfold kq at h2
   cases q:(Nat.ble R 0||b R)with
   |false=>rw[q]at h2;exact absurd h2 g
   |true=>
    rw[q]at h2;have h2':n<kq b 0 R+1:=h2
    have e:kq b 0 R=n:=by exact Du (λZ=>An [_,_] [Ae x1 x0,Ae x0 (.a x1 (.n 1))] rT Z h2') (λZ=>An [_,_] [Ae x0 x1,Ac x1 x0] rT Z (lN7.mp g))
    have hR:R≠0:=λz=>by rw[z]at e;have:kq b 0 0=0:=rfl;exact An [_,_] [Ac (.n 1) x0,Cz x1 x0,eq1 x1 (.n 0)] rT h1 e this
    have hb:b R=true:=by
     have:Nat.ble R 0=false:=by
      cases q2:Nat.ble R 0 with
      |false=>rfl
      |true=>exact absurd (Nat.ble_eq.mp q2) (by lia)
     rw[this,lL3]at q;exact q
    exact⟨R,lI5 _,hb,e⟩
theorem Sk(h:∀n,1<=n->n<R->b n=true):∀x,x<=R->kq b 0 x=x
 |0,_=>rfl
 |x+1,hx=>by
  have e:(Nat.ble x 0||b x)=true:=by
   by_cases z:x=0
   ·rw[z];rfl
   ·rw[h x (by lia) (hx),Bool.or_true]
  unfold kq;rw[Sk h x (Nat.le_of_succ_le hx),e];rfl
theorem zDp{α β:Type}{f:α->β}{l:List α}:∀{m:List β},m.Perm (l.map f)->∃l':List α,l'.Perm l/\m=l'.map f:=by
 intro m p;generalize hn:l.map f=n at p
 induction p generalizing l with
 |nil=>
  have e:=List.map_eq_nil_iff.mp hn;subst e;exact⟨[],.refl _,rfl⟩
 |cons x p ih=>
  cases l with
  |nil=>simp at hn
  |cons a l=>
   simp only[lL4,lJ1]at hn;obtain⟨l',pl,e⟩:=ih hn.2;exact⟨a::l',pl.cons a,by rw[e,lL4,hn.1]⟩
 |swap x y t=>
  cases l with
  |nil=>simp at hn
  |cons a l=>
   cases l with
   |nil=>simp at hn
   |cons b l=>
    simp only[lL4,lJ1]at hn;obtain⟨h1,h2,h3⟩:=hn;exact⟨b::a::l,.swap _ _ _,by rw[lL4,lL4,h1,h2,h3]⟩
 |trans p q ih1 ih2=>
  obtain⟨l2,p2,e2⟩:=ih2 hn;obtain⟨l1,p1,e1⟩:=ih1 e2.symm;exact⟨l1,p1.trans p2,e1⟩
section
open Builtin.Str
theorem P4(p:Nat->Bool)(l:List Nat):l.take (l.length - (l.reverse.takeWhile p).length)=(l.reverse.dropWhile p).reverse:=by
 have h:=List.takeWhile_append_dropWhile (p:=p) (l:=l.reverse);have h2:l=(l.reverse.dropWhile p).reverse++(l.reverse.takeWhile p).reverse:=by
  rw[←List.reverse_append,h,List.reverse_reverse]
 have h3:l.length=(l.reverse.dropWhile p).length+(l.reverse.takeWhile p).length:=by
  have:=lO2 List.length h2
  simpa using this
 have h4:l.length - (l.reverse.takeWhile p).length=(l.reverse.dropWhile p).reverse.length:=by rw[List.length_reverse];omega
 rw[h4];conv=>lhs;arg 2;rw[h2]
 exact List.take_left ..
theorem Vx(x:Str):(cl (Txt.rstripChars x (sO " "))).getLast?≠some 32:=by
 have e:cl (Txt.rstripChars x (sO " "))=((cl x).reverse.dropWhile (sO " ").cps.contains).reverse:=by
  show cl (Txt.stripBy (sO " ").cps.contains false true x)=_
  rw[stripBy_eq,←P4];simp[cl,strSub,stripLo,stripHi,Str.length]
 rw[e,List.getLast?_reverse];intro h;have:=List.head?_dropWhile_not (sO " ").cps.contains (cl x).reverse
 rw[h]at this;simp only at this
 exact absurd this (by decide+kernel)
end
section
open Builtin.Str
noncomputable def zD6 (c:Nat):Bool:=decide (32<=c)&&decide (c<=126)
noncomputable def zJy (l:List Nat):Prop:=l.all zD6=true/\l.getLast?≠some 32
noncomputable def I6 (l:List Nat):Bool:=if decide ((l.length:Int)>200)||l.getLast? ==some 10 then false else(Cu 10 l).all (λp=>p.getLast? !=some 32&&p.all (λc=>decide (32<=c)&&decide (c<=126)))
theorem zJy.no10(h:zJy l):10∉l:=λm=>by
 have:=lH7.mp h.1 10 m
 cases this
theorem Po(hne:as≠[])(h:∀a,a∈as->zJy a)(hl:(Bz 10 as).length<=200)(hz:(Bz 10 as).getLast?≠some 10):I6 (Bz 10 as)=true:=by
 unfold I6;have h1:decide (((Bz 10 as).length:Int)>200)=false:=decide_eq_false (by omega)
 have h2:((Bz 10 as).getLast? ==some 10)=false:=by simpa using hz
 rw[h1,h2,M3 hne λa m=>(h a m).no10]
 simp only[Bool.or_self,lE6,lO3];refine lH7.mpr λa m=>?_
 have g:=h a m;rw[lH6];exact⟨by simpa using g.2,g.1⟩
theorem Rx(h:zJy l)(hl:l.length<=200):I6 l=true:=
 Po (as:=[l]) (by simp) (λa m=>by rw[lq0 m];exact h) hl λz=>h.no10 (List.mem_of_getLast? z)
theorem S7(c e:Nat):∀(as:List (List Nat)) (z:List Nat),Bz c (as++[z])++[e]=Bz c (as++[z++[e]])
 |[],z=>rfl
 |[a],z=>by simp[Ka,K7,Ic]
 |a::b::as,z=>by
  have:=S7 c e (b::as) z
  simp only[List.cons_append,Ka,K7,Ic]at this ⊢;rw[←this];simp
end
structure Bn where
 t:Nat
 l:Nat
 b:Nat
 r:Nat
noncomputable def Bn.In (b:Bn)(i j:Nat):Prop:=(b.t<=i/\i<b.b)/\b.l<=j/\j<b.r
noncomputable def zMB (a b:Bn):Prop:=a.t<b.t∨a.t=b.t/\a.l<b.l
noncomputable def at0 (fr:List Nat)(j:Nat):Nat:=fr.getD j 0
structure zGG (R C:Nat)(fr:List Nat)(bs:List Bn):Prop where
 len:fr.length=C
 le:∀j,j<C->at0 fr j<=R
 good:∀b,b∈bs->(b.t<b.b/\b.b<=R)/\b.l<b.r/\b.r<=C
 cov:∀i j,j<C->i<at0 fr j->∃b,b∈bs/\b.In i j
 und:∀b,b∈bs->∀i j,b.In i j->i<at0 fr j
 dis:bs.Pairwise λa b=>∀i j,a.In i j->¬b.In i j
 ord:bs.Pairwise zMB
 frt:∀b,b∈bs->∀j,j<C->b.t<=at0 fr j/\(j<=b.l->b.t<at0 fr j)
theorem zGG.start(R C:Nat):zGG R C (List.replicate C 0) [] where
 len:=lC4
 le j h:=by unfold at0;rw[lA2,List.getElem?_replicate];split<;>exact lq5 _
 good _ m:=nomatch m
 cov i j h z:=by unfold at0 at z;rw[lA2,List.getElem?_replicate,lO6 h]at z;exact absurd z (lJ9 _)
 und _ m:=nomatch m
 dis:=.nil
 ord:=.nil
 frt _ m:=nomatch m
noncomputable def put (fr:List Nat)(l w v:Nat):List Nat:=fr.take l++List.replicate w v++fr.drop (l+w)
theorem Ol(h:l+w<=fr.length):(put fr l w v).length=fr.length:=by
 unfold put;rw[lq7,lq7,lI2,lC4,lI1];lia
theorem zE4(h:l+w<=fr.length)(j:Nat):at0 (put fr l w v) j=if l<=j/\j<l+w then v else at0 fr j:=by
 have h1:(fr.take l).length=l:=by rw[lI2];lia
 unfold at0 put;rw[lA2,lA2,lq8];by_cases a:j<l
 ·rw[lO5 (by lia),lA6 (lF5 a (lM5 (Eq.symm h1))),lB0 a]
 ·rw[lA3 (by exact lM7 (lM5 h1) (lN7.mp a)),h1];by_cases b:j<l+w
  ·rw[lO6 ⟨Nat.le_of_not_lt a,b⟩,lA6 (by rw[lC4];exact Cd (Ae x1 x0) [Ae x3 (.a x2 x0),eq1 (.a x1 x2) x3] rT b (Aq ((lN7.mp a)))),List.getElem?_replicate,lO6 (by exact Cd (Ae x1 x0) [Ae x3 (.a x2 x0),eq1 (.a x1 x2) x3] rT b (Aq ((lN7.mp a))))];rfl
  ·rw[lO5 (by lia),lA3 (by rw[lC4];exact Cd (Ac x0 x1) [Ac (.a x2 x0) x3,Ac x3 (.a x1 x2)] rT (lN7.mp b) (Ao _ _)),lC4,lE9]
   congr 2;exact Du (λZ=>An [_,_,_,_,_] [Ae (.a (.a x0 x1) x3) x2,Ac x2 (.a x4 x0),Ac x4 (.a x3 x1)] rT Z (Ao _ _) (Ao _ _)) (λZ=>An [_,_,_,_,_] [Ae x2 (.a (.a x0 x1) x3),eq1 (.a x4 x0) x2,eq1 (.a x3 x1) x4] rT Z (Aq ((lN7.mp a))) (Aq (Cd (Ac x0 x1) [Ac (.a x2 x0) x3,Ac x3 (.a x1 x2)] rT (lN7.mp b) (Ao _ _))))
theorem Zr(w v:Nat):(List.replicate w v).sum=w*v:=by
 induction w with
 |zero=>simp
 |succ w ih=>rw[List.replicate_succ,List.sum_cons,ih,Nat.succ_mul];exact Du (λZ=>An [_,_] [Ae (.a x1 x0) (.a x0 x1)] rT Z) (λZ=>An [_,_] [Ae (.a x0 x1) (.a x1 x0)] rT Z)
theorem zGu(hl:l+w<=fr.length)(hw:1<=w)(hh:1<=h)(hm:∀j,l<=j->j<l+w->at0 fr j=m):fr.sum+1<=(put fr l w (m+h)).sum:=by
 have e:fr=fr.take l++List.replicate w m++fr.drop (l+w):=by
  refine lH9 (by rw[←Ol (v:=m) hl];rfl) λj h1 h2=>?_
  have:=zE4 (v:=m) hl j
  unfold at0 at this;rw[lA2,lA2,lA9 (by rw[Ol hl];exact h1),lA9 h1]at this
  have this:(put fr l w m)[j]'(by rw[Ol hl];exact h1)=if l<=j/\j<l+w then m else fr[j]:=this
  refine Eq.trans ?_ this.symm
  split
  ·rename_i z;have:=hm j z.1 z.2
   unfold at0 at this;rw[lA2,lA9 h1]at this;exact this
  ·rfl
 have e2:fr.sum=(fr.take l).sum+w*m+(fr.drop (l+w)).sum:=by
  conv=>lhs;rw[e]
  rw[List.sum_append,List.sum_append,Zr]
 unfold put;rw[List.sum_append,List.sum_append,Zr,e2,Nat.mul_add];have:1<=w*h:=Nat.mul_pos hw hh
 exact Cd (Ac (.a (.a (.a x0 x1) x2) (.n 1)) (.a (.a x0 (.a x1 x3)) x2)) [Ac (.n 1) x3] rT this
theorem zGG.step(S:zGG R C fr bs)(hmin:∀j,j<C->m<=at0 fr j)(hfirst:∀j,j<l->at0 fr j≠m)(hl:l+w<=C)(hw:1<=w)(hh:1<=h)(hR:m+h<=R)(hm:∀j,l<=j->j<l+w->at0 fr j=m):zGG R C (put fr l w (m+h)) (bs++[⟨m,l,m+h,l+w⟩]):=by
 have hlen:l+w<=fr.length:=by rw[S.len];exact hl
 have pa:=zE4 (v:=m+h) hlen;have up:∀j,j<C->at0 fr j<=at0 (put fr l w (m+h)) j:=λj hj=>by
  rw[pa j];split
  ·rename_i z;rw[hm j z.1 z.2];exact Cp (Ac x1 (.a x1 x0)) [Ac (.n 1) x0] rT hh
  ·exact lN4 _
 refine⟨(Ol hlen).trans S.len,λj hj=>?_,λb mb=>?_,λi j hj hi=>?_,λb mb i j hb=>?_,?_,?_,λb mb j hj=>?_⟩
 ·rw[pa j];split
  ·exact hR
  ·exact S.le j hj
 ·rcases lJ6.mp mb with mb|mb
  ·exact S.good b mb
  ·rw[lq0 mb];exact⟨⟨by show m<m+h;exact Cp (Ae x1 (.a x1 x0)) [Ac (.n 1) x0] rT hh,hR⟩,by show l<l+w;exact Cp (Ae x0 (.a x0 x1)) [Ac (.n 1) x1] rT hw,hl⟩
 ·by_cases z:i<at0 fr j
  ·obtain⟨b,mb,hb⟩:=S.cov i j hj z;exact⟨b,lJ6.mpr (.inl mb),hb⟩
  ·rw[pa j]at hi;split at hi
   ·rename_i q;rw[hm j q.1 q.2]at z;exact⟨_,lJ6.mpr (.inr lq1),⟨Nat.le_of_not_lt z,hi⟩,q.1,q.2⟩
   ·exact absurd hi z
 ·rcases lJ6.mp mb with mb|mb
  ·have h1:=S.und b mb i j hb;exact lF5 h1 (up j (lF5 hb.2.2 (S.good b mb).2.2))
  ·rw[lq0 mb]at hb;rw[pa j,lO6 ⟨hb.2.1,hb.2.2⟩];exact hb.1.2
 ·refine lD7.mpr ⟨S.dis,List.pairwise_singleton _ _,λa ma b mb i j ha hb=>?_⟩
  rw[lq0 mb]at hb;have h1:=S.und a ma i j ha;rw[hm j hb.2.1 hb.2.2]at h1;exact absurd hb.1.1 (Nat.not_le.mpr h1)
 ·refine lD7.mpr ⟨S.ord,List.pairwise_singleton _ _,λa ma b mb=>?_⟩
  rw[lq0 mb];have h1:=S.frt a ma l (by exact Ck (Ae x0 x1) [Ac (.a x0 x2) x1,Ac (.n 1) x2] rT hl hw);rw[hm l (lN4 _) (by exact Cp (Ae x0 (.a x0 x1)) [Ac (.n 1) x1] rT hw)]at h1;rcases lF6 h1.1 with z|z
  ·exact .inl z
  ·refine .inr ⟨z,?_⟩
   show a.l<l
   rcases lM8 a.l l with q|q
   ·exact q
   ·have:=h1.2 q;exact zE5 λZ=>An [_,_] [Cz x1 x0,Ae x1 x0] rT z this
 ·rcases lJ6.mp mb with mb|mb
  ·have h1:=S.frt b mb j hj;exact⟨lM7 h1.1 (up j hj),λz=>lF5 (h1.2 z) (up j hj)⟩
  ·rw[lq0 mb];refine⟨lM7 (hmin j hj) (up j hj),λz=>?_⟩
   have z:j<=l:=z
   show m<_
   rw[pa j];split
   ·exact Cp (Ae x1 (.a x1 x0)) [Ac (.n 1) x0] rT hh
   ·have h1:=hmin j hj;have h2:=hfirst j (by lia);lia
theorem Vi:∀{fr:List Nat},(∀j,j<fr.length->at0 fr j<=R)->R*fr.length<=fr.sum->∀j,j<fr.length->at0 fr j=R
 |[],_,_,j,h=>absurd h (lJ9 _)
 |x::fr,h1,h2,j,h=>by
  have a1:x<=R:=h1 0 (Nat.zero_lt_succ _)
  have a2:∀j,j<fr.length->at0 fr j<=R:=λj hj=>h1 (j+1) (Nat.succ_lt_succ hj)
  have up:∀{l:List Nat},(∀j,j<l.length->at0 l j<=R)->l.sum<=R*l.length:=by
   intro l
   induction l with
   |nil=>intro _;exact lN4 _
   |cons y l ih=>
    intro hh;have b1:y<=R:=hh 0 (Nat.zero_lt_succ _)
    have b2:=ih λj hj=>hh (j+1) (Nat.succ_lt_succ hj)
    rw[List.sum_cons,lI0,Nat.mul_succ];exact Cd (Ac (.a x1 x2) (.a x3 x0)) [Ac x1 x0,Ac x2 x3] rT b1 b2
  have a3:=up a2;rw[List.sum_cons,lI0,Nat.mul_succ]at h2
  cases j with
  |zero=>show x=R;exact Du (λZ=>An [_,_,_,_] [Ae x1 x0,Ac (.a x2 x0) (.a x1 x3),Ac x3 x2] rT Z h2 a3) (λZ=>An [_,_] [Ae x0 x1,Ac x1 x0] rT Z a1)
  |succ j=>exact Vi a2 (by exact Cd (Ac x0 x1) [Ac (.a x0 x2) (.a x3 x1),Ac x3 x2] rT h2 a1) j (Nat.lt_of_succ_lt_succ h)
structure Nf (R C:Nat)(bs:List Bn):Prop where
 good:∀b,b∈bs->(b.t<b.b/\b.b<=R)/\b.l<b.r/\b.r<=C
 cov:∀i j,i<R->j<C->∃b,b∈bs/\b.In i j
 dis:bs.Pairwise λa b=>∀i j,a.In i j->¬b.In i j
 ord:bs.Pairwise zMB
theorem zGG.full(S:zGG R C fr bs)(h:∀j,j<C->at0 fr j=R):Nf R C bs:=
 ⟨S.good,λi j hi hj=>S.cov i j hj (by rw[h j hj];exact hi),S.dis,S.ord⟩
noncomputable abbrev Bo:=Nat->Nat->Nat
noncomputable def Gp (B:Bo)(y x c:Nat):Bo:=λi j=>if i=y/\j=x then c else B i j
structure Qb where
 n:Nat
 w:Nat
 s:Nat
 e:Nat
noncomputable def zFr (b:Qb)(y x:Nat):Prop:=(y=b.n∨y=b.s)/\(x=b.w∨x=b.e)
noncomputable def Uf (b:Qb)(y x:Nat):Prop:=(y=b.n∨y=b.s)/\b.w<x/\x<b.e
noncomputable def X5 (b:Qb)(y x:Nat):Prop:=(x=b.w∨x=b.e)/\b.n<y/\y<b.s
open Classical in
noncomputable def Hu (P:Nat->Nat->Prop)(c:Nat)(B:Bo):Bo:=λy x=>if P y x then c else B y x
open Classical in
noncomputable def Db (P:Nat->Nat->Prop)(c:Nat)(B:Bo):Bo:=λy x=>if P y x/\B y x≠43 then c else B y x
section
open Classical
theorem Ke:Gp (Hu P c B) y x c=Hu (λi j=>P i j∨(i=y/\j=x)) c B:=by
 funext i j
 unfold Gp Hu;by_cases h:i=y/\j=x
 ·rw[lO6 h,lO6 (.inr h)]
 ·rw[lO5 h];by_cases g:P i j
  ·rw[lO6 g,lO6 (.inl g)]
  ·rw[lO5 g,lO5 (λz=>z.elim g h)]
theorem zAH:Hu (λ_ _=>False) c B=B:=by
 funext i j;exact lO5 (λz=>z)
theorem Lb(h:∀y x,P y x↔P' y x):Hu P c B=Hu P' c B:=by
 have:P=P':=by funext y x;exact propext (h y x)
 rw[this]
theorem zBG:Hu P' c (Hu P c B)=Hu (λi j=>P i j∨P' i j) c B:=by
 funext i j
 unfold Hu;by_cases h:P' i j
 ·rw[lO6 h,lO6 (.inr h)]
 ·rw[lO5 h];by_cases g:P i j
  ·rw[lO6 g,lO6 (.inl g)]
  ·rw[lO5 g,lO5 (λz=>z.elim g h)]
theorem Ry{α:Type}{P:α->Nat->Nat->Prop}{c:Nat}:∀(l:List α) (B:Bo),l.foldl (λB a=>Hu (P a) c B) B=Hu (λy x=>∃a,a∈l/\P a y x) c B
 |[],B=>by
  rw[List.foldl_nil,Lb (P':=λ_ _=>False) λy x=>⟨λ⟨a,m,_⟩=>(nomatch m),False.elim⟩,zAH]
 |a::l,B=>by
  rw[lJ2,Ry l,zBG];refine Lb λy x=>⟨λh=>?_,λ⟨b,m,h⟩=>?_⟩
  ·rcases h with h|⟨b,m,h⟩
   ·exact⟨a,lq1,h⟩
   ·exact⟨b,lq4 _ m,h⟩
  ·rcases lL5.mp m with rfl|m
   ·exact .inl h
   ·exact .inr ⟨b,m,h⟩
theorem Sc(hc:c≠43):Db P' c (Db P c B)=Db (λi j=>P i j∨P' i j) c B:=by
 funext i j
 unfold Db;by_cases g:B i j=43<;>by_cases q:P i j<;>by_cases h:P' i j<;>simp[g,q,h,hc]
theorem zIK:Db (λ_ _=>False) c B=B:=by
 funext i j;exact lO5 (λz=>z.1)
theorem Gv(h:∀y x,P y x↔P' y x):Db P c B=Db P' c B:=by
 have:P=P':=by funext y x;exact propext (h y x)
 rw[this]
theorem Mz{α:Type}{P:α->Nat->Nat->Prop}{c:Nat}(hc:c≠43):∀(l:List α) (B:Bo),l.foldl (λB a=>Db (P a) c B) B=Db (λy x=>∃a,a∈l/\P a y x) c B
 |[],B=>by
  rw[List.foldl_nil,Gv (P':=λ_ _=>False) λy x=>⟨λ⟨a,m,_⟩=>(nomatch m),False.elim⟩,zIK]
 |a::l,B=>by
  rw[lJ2,Mz hc l,Sc hc];refine Gv λy x=>⟨λh=>?_,λ⟨b,m,h⟩=>?_⟩
  ·rcases h with h|⟨b,m,h⟩
   ·exact⟨a,lq1,h⟩
   ·exact⟨b,lq4 _ m,h⟩
  ·rcases lL5.mp m with rfl|m
   ·exact .inl h
   ·exact .inr ⟨b,m,h⟩
theorem V5:(if B y x≠43 then Gp B y x c else B)=Db (λi j=>i=y/\j=x) c B:=by
 funext i j
 by_cases g:B y x=43
 ·rw[lO5 (λz=>z g)]
  refine(lO5 λz=>?_).symm
  obtain⟨⟨rfl,rfl⟩,z⟩:=z;exact z g
 ·rw[lO6 g];unfold Db Gp;by_cases h:i=y/\j=x
  ·obtain⟨rfl,rfl⟩:=h;rw[lO6 ⟨rfl,rfl⟩,lO6 ⟨⟨rfl,rfl⟩,g⟩]
  ·rw[lO5 h,lO5 (λz=>h z.1)]
end
section
open Builtin.Str
noncomputable def Pj:Str:=sO "+-|+-| !\"#$&'()*+,-./0123456789:;<=>?@ABCDEFGHIJKLMNOPQRSTUVWXYZ[\\]^_`"++sO "abcdefghijklmnopqrstuvwxyz{|}~"
theorem L3:Pj.length=100:=by decide+kernel
noncomputable def plain (c:Nat):Bool:=decide (32<=c)&&decide (c<=126)
theorem zBC:(cl Pj).all plain=true:=by decide+kernel
theorem zMJ:(sO "+-|+-| !\"#$&'()*+,-./0123456789:;<=>?@ABCDEFGHIJKLMNOPQRSTUVWXYZ[\\]^_`").length=70:=by decide+kernel
theorem zMu:(sO "abcdefghijklmnopqrstuvwxyz{|}~").length=30:=by decide+kernel
theorem Z7(x y:Str):∃j,cl (Txt.rstripChars x y)=(cl x).take j:=by
 obtain⟨j,hj,e⟩:=rstripChars_is_prefix x y;refine⟨j,?_⟩
 rw[e];simp[cl,strSub]
theorem En(h:(He a||He b)=true):Ey (.int a) (.int b) S=.ok (.int (a*b)) S:=C8 h
theorem Up(h:x.length+y.length<=sizeLine):B0 (.str x) (.str y) S=.ok (.str (x++y)) S:=C8 h
theorem Zm:∀(zs:List Str),(∀y,y∈zs->∃c,y=⟨#[c]⟩/\plain c=true)->(zs.map cl).flatten.all plain=true/\(zs.map cl).flatten.length=zs.length
 |[],_=>⟨rfl,rfl⟩
 |z::r,h=>by
  obtain⟨c,rfl,hc⟩:=h z lq1;obtain⟨i1,i2⟩:=Zm r (λy m=>h y (lq4 _ m))
  rw[lL4,List.flatten_cons];refine⟨?_,?_⟩
  ·rw[List.all_append,i1,Bool.and_true];show(plain c&&true)=true
   rw[hc];rfl
  ·rw[lq7,i2,lI0,Nat.add_comm];rfl
theorem zAD{xs ds:List D}{V:Str->Prop}(r:Bs (λx d=>∃y,x=D.str y/\V y) xs ds):∃ys:List Str,xs=ys.map D.str/\ys.length=ds.length/\∀y,y∈ys->V y:=by
 induction r with
 |nil=>exact⟨[],rfl,rfl,λy m=>absurd m lI3⟩
 |cons h _ ih=>
  obtain⟨y,rfl,v⟩:=h;obtain⟨ys,rfl,hl,hv⟩:=ih;refine⟨y::ys,rfl,by rw[lI0,hl];rfl,λz m=>?_⟩
  rcases lL5.mp m with rfl|m
  ·exact v
  ·exact hv z m
theorem zCy(h1:size<=300)(hys:∀y,y∈ys->∃c,y=⟨#[c]⟩/\plain c=true)(hlen:(ys.length:Int)<=size):
  JoinOk (Str.ofString "") ys=true∧(Str.join (Str.ofString "") ys).length≤sizeLine∧(cl (Txt.rstripChars (Str.join (Str.ofString "") ys) (sO " "))).all plain=true∧((Txt.rstripChars (Str.join (Str.ofString "") ys) (sO " ")).length:Int)≤size:=by
 have hsl:(1000:Nat)<=sizeLine:=by decide
 have hf:cl (Str.join (Str.ofString "") ys)=(ys.map cl).flatten:=by rw[zFC];exact Q6 ys
 obtain⟨i1,i2⟩:=Zm ys hys;have hjl:(Str.join (Str.ofString "") ys).length=ys.length:=by rw[←Bb,hf,i2]
 obtain⟨t,ht⟩:=Z7 (Str.join (Str.ofString "") ys) (sO " ")
 refine⟨Hv (B:=1) (λy m=>?_) ?_,by exact G9 (zN7 (Ac x1 x0) [Ac x2 (.n 300),Ac x3 x2,Ac (.n 1000) x0,eq1 x1 x3] rT h1 hlen (Cc hsl) (M9 hjl)),?_,?_⟩
 ·obtain⟨c,rfl,_⟩:=hys y m;exact lN4 1
 ·show ys.length*1+ys.length*0<=_
  lia
 ·rw[ht,hf];exact lH7.mpr λc mc=>lH7.mp i1 c (lD6 mc)
 ·rw[←Bb,ht,lI2,Bb];lia
theorem Xz{n size:Int}{st:St}{Q:D->St->Prop}(h0:0<=size)(h1:size<=300)(hQ:∀x j,(cl x).all plain=true->(x.length:Int)<=size->(cl x).getLast?≠some 32->Q (.str x) ⟨st.loc,st.sto++j⟩):W (Ds [.int n,.int size]) st Q:=by
 have hsl:(1000:Nat)<=sizeLine:=by decide
 refine Bu rfl ?_
 unfold Nr;refine Ax (st1:=⟨Be (Dk Br [0,1] [.int n,.int size]) 2 (.str _),st.sto⟩) rfl (Ax (run_set (Ab rfl rfl (Up (by rw[zMJ,zMu];exact X7 (Ac (.a (.n 70) (.n 30)) x0) [Ac (.n 1000) x0] rT hsl)))) (Al ?_))
 refine Wb (Wb (Wb (Aa rfl (Wb (Wb (Wb (Aa (A5 rfl (Bg (J7.mpr ⟨Dl.mpr ⟨by exact H6 (Ac (.s (.n 0) (.n 1099511627776)) x0) [Ac (.n 0) x0] rT h0,zDH h1 rfl⟩,rfl,rfl⟩))) ?_)))))))
 refine U1 (λ_=>true) (λ_ x _=>∃y,x=.str y/\∃c,y=⟨#[c]⟩/\plain c=true) (λl=>l 2=some (.str Pj)/\l 0=some (.int n)) (by show(Ez _ _ _).length<=sizeLine;rw[Ji];exact G9 (zIX (Ac x1 x0) [Ac x2 (.n 300),Ac (.n 1000) x0,eq1 x1 x2] rT h1 (Cc hsl) (D5 (h0)))) (λ_ _ _ _ _ h=>h) (λ_ _=>trivial) ⟨rfl,rfl⟩ (λd hd l σ' hA hx=>?_) λxs σ' hx r=>?_
 ·obtain⟨j,hj,rfl⟩:=Uj hd;have hr:=C6 (a:=n+(0+(j:Int)*1)*(1+(n.fdiv 100).fmod 99)) (b:=100) (by decide);refine⟨Be l 3 _,rfl,hA,Aa rfl ⟨rfl,rfl,.refl _,λ_=>Mg (Aa (A7 (i:=2) hA.1) (Aa (Ab (Ab (A7 (i:=0) hA.2) (Ab rfl (Ab rfl (Ab (Ab (A7 (i:=0) hA.2) rfl rfl) rfl rfl) rfl) (En (by rw[Dt (by lia) (by lia)];rfl))) rfl) rfl rfl) ?_))⟩⟩
  refine(zEP hr.1 (by rw[L3];exact hr.2) (by rw[L3];decide)).mpr ⟨rfl,.refl _,_,rfl,_,rfl,?_⟩
  exact lH7.mp zBC _ (Array.getElem_mem_toList (xs:=Pj.cps) (i:=(n+(0+(j:Int)*1)*(1+(n.fdiv 100).fmod 99)).fmod 100 |>.toNat) (by show _<Pj.length;rw[L3];exact Jf (lE8 (Int.le_of_eq (D5 (hr.1))) hr.2)))
 ·rw[Le]at r;obtain⟨ys,rfl,hl,hys⟩:=zAD r;rw[Ji]at hl;obtain⟨j1,j2,j3,j4⟩:=zCy (size:=size) h1 hys (by exact zIX (Ac x1 x0) [eq1 x1 x2,eq1 x2 x0] rT (M9 hl) (D5 (h0)))
  obtain⟨j,rfl⟩:=hx;refine Aa rfl (To lq3 (H1 ys) j1 (Aa (A5 rfl (C8 j2)) (Aa rfl ?_)))
  have:=hQ _ (j++[.list (ys.map D.str)]) j3 j4 (Vx _)
  rw[←lq8]at this;exact this
noncomputable def Mv (c:Nat):Bool:=c==10||plain c
theorem Py{l:List Nat}(h:l.all plain=true):l.all Mv=true:=by
 rw[lH7]at h ⊢;intro c m;unfold Mv;rw[h c m,Bool.or_true]
theorem R0(hc:p c=true):∀(as:List (List Nat)),(∀a,a∈as->a.all p=true)->(Bz c as).all p=true
 |[],_=>rfl
 |[a],h=>h a lq1
 |a::b::r,h=>by
  have:=R0 hc (b::r) λx m=>h x (lq4 _ m)
  simp only[Bz,List.all_append,List.all_cons,hc,this,h a lq1,Bool.and_self]
theorem zGZ(x y:Str):(x++y).length=x.length+y.length:=by
 rw[←Bb,F5,lq7,Bb,Bb]
theorem zFT(he:zD6 e=true)(he2:e≠32)(hne:as≠[])(h:∀a,a∈as->zJy a)(hl:(Bz 10 as).length+1<=200):I6 (Bz 10 as++[e])=true:=by
 obtain⟨bs,z,rfl⟩:∃bs z,as=bs++[z]:=⟨as.dropLast,as.getLast hne,(List.dropLast_concat_getLast hne).symm⟩
 have q:=S7 10 e bs z;have hlen:(Bz 10 (bs++[z++[e]])).length<=200:=by rw[←q,lq7];exact hl
 have h10:e≠10:=λz=>by rw[z]at he;cases he
 have hlast:(Bz 10 (bs++[z++[e]])).getLast?≠some 10:=by rw[←q,List.getLast?_append];simpa using h10
 rw[q];refine Po (by simp) (λa m=>?_) hlen hlast
 rcases lJ6.mp m with m|m
 ·exact h a (lD4 _ m)
 ·rw[lq0 m];refine⟨?_,by simpa using he2⟩
  rw[List.all_append,(h z (lC6 _ (lF1.mpr rfl))).1];simpa using he
theorem zGx(he:plain e=true)(hp:∀p,p∈ps->(cl p).all plain=true/\p.length<=B)(hl:ps.length*(B+1)<=190):
  JoinOk ⟨#[10]⟩ ps=true/\(Str.join ⟨#[10]⟩ ps).length+(⟨#[e]⟩:Str).length<=sizeLine/\(cl (Str.join ⟨#[10]⟩ ps++⟨#[e]⟩)).all Mv=true/\(Str.join ⟨#[10]⟩ ps++⟨#[e]⟩).length<=200:=by
 have hsl:(2000:Nat)<=sizeLine:=by decide
 have l1:(⟨#[e]⟩:Str).length=1:=rfl
 have hjl:(Str.join ⟨#[10]⟩ ps).length<=190:=by
  rw[←Bb,Iw];refine lM7 (G4 10 (B:=B) (ps.map cl) (λa m=>?_)) ?_
  ·obtain⟨p,mp,rfl⟩:=lM4.mp m;rw[Bb];exact(hp p mp).2
  ·rw[lq6];exact hl
 rw[Nat.mul_succ]at hl;refine⟨Hv (B:=B) (λy m=>(hp y m).2) (by show ps.length*B+ps.length*1<=_;lia),by exact Ck (Ac (.a x2 x1) x0) [Ac (.n 2000) x0,eq1 x1 (.n 1),Ac x2 (.n 190)] rT hsl l1 hjl,?_,by rw[zGZ];exact Cp (Ac (.a x1 x0) (.n 200)) [eq1 x0 (.n 1),Ac x1 (.n 190)] rT l1 hjl⟩
 rw[F5,List.all_append,Iw];refine lD1.mpr ⟨R0 rfl _ λa m=>?_,?_⟩
 ·obtain⟨p,mp,rfl⟩:=lM4.mp m;exact Py (hp p mp).1
 ·show(Mv e&&true)=true
  unfold Mv;rw[he,Bool.or_true];rfl
theorem zA5{msrc:Mn Js}{margs:Mn (List D)}{mend:Mn D}{N B:Nat}{loc:Bm}{σ:C3}{more:Int}{Q:Fl->St->Prop}(hB:B<=10)(hNB:N*(B+1)<=190)(hN1:1<=N)(hsrc:msrc ⟨loc,σ⟩=.ok ⟨Ez 0 1 N,λ_=>True⟩ ⟨loc,σ⟩)(h1:loc 1=some (.int more))
  (hargs:∀(l:Bm) (σ':C3) (i:Int),l 1=some (.int more)->∃a b,margs ⟨Be l 3 (.int i),σ'⟩=.ok [.int a,.int b] ⟨Be l 3 (.int i),σ'⟩/\0<=b/\b<=B)
  (hend:∀(l:Bm) (σ':C3),l 1=some (.int more)->∃e j,mend ⟨l,σ'⟩=.ok (.str ⟨#[e]⟩) ⟨l,σ'++j⟩/\plain e=true/\e≠32)
  (hQ:∀x l j,(cl x).all Mv=true->x.length<=200->I6 (cl x)=true->Q (.ret (.str x)) ⟨l,σ++j⟩):
  W (Ag (Af (Af msrc (C7 [3] (As 3) (A8 true) (Af margs Ds))) (Ah 2)) (Ag (Ca (Ad B0 (Af (A8 (.str (sO "\n"))) (strM λx=>Af (A9 (A6 2) Ai) (Gm x))) mend)) (A8 .next))) ⟨loc,σ⟩ Q:=by
 have hsl:(1000:Nat)<=sizeLine:=by decide
 refine Al (Wb (Wb (Aa hsrc ?_)))
 refine U1 (λ_=>true) (λ_ x _=>∃y,x=.str y/\((cl y).all plain=true/\y.length<=B/\(cl y).getLast?≠some 32)) (λl=>l 1=some (.int more)) (by show(Ez _ _ _).length<=_;rw[Ji];rw[Nat.mul_succ]at hNB;exact Ck (Ac x0 x1) [Ac (.a x2 x0) (.n 190),Ac (.n 1000) x1,Ac (.n 0) x2] rT hNB hsl (lq5 _)) (λ_ _ _ _ _ h=>h) (λ_ _=>trivial) h1 (λd hd l σ' hA hx=>?_) λxs σ₁ hx r=>?_
 ·obtain⟨i,_,rfl⟩:=Uj hd;obtain⟨a,b,e,b0,b1⟩:=hargs l σ' (0+(i:Int)*1) hA
  exact⟨Be l 3 _,rfl,hA,Aa rfl ⟨rfl,rfl,.refl _,λ_=>Wb (Aa e (Xz b0 (by exact Vt (Ac x0 (.n 300)) [Ac x0 x1,Ac x1 (.n 10)] rT b1 (Cc hB)) λx jj h1 h2 h3=>⟨rfl,.app _ _,x,rfl,h1,by exact G9 (lM2 h2 b1),h3⟩))⟩⟩
 ·rw[Le]at r;obtain⟨ps,rfl,hl,hps⟩:=zAD r;rw[Ji]at hl;obtain⟨e,j2,he,hp,h32⟩:=hend (Be loc 2 (.ref σ₁.length)) (σ₁++[.list (ps.map D.str)]) h1
  obtain⟨g1,g2,g3,g4⟩:=zGx hp (λp m=>⟨(hps p m).1,(hps p m).2.1⟩) (by rw[hl];exact hNB)
  have gg:I6 (cl (Str.join ⟨#[10]⟩ ps++⟨#[e]⟩))=true:=by
   rw[F5,Iw];refine zFT (as:=ps.map cl) hp h32 (λz=>?_) (λa m=>?_) ?_
   ·have:=lO2 List.length z
    rw[lq6,hl]at this;exact absurd this (by show N≠0;exactλZ=>An [_] [eq1 x0 (.n 0),Ac (.n 1) x0] rT Z hN1)
   ·obtain⟨p,mp,rfl⟩:=lM4.mp m;exact⟨(hps p mp).1,(hps p mp).2.2⟩
   ·have:=G4 10 (B:=B) (ps.map cl) λa m=>by
     obtain⟨p,mp,rfl⟩:=lM4.mp m;rw[Bb];exact(hps p mp).2.1
    rw[lq6,hl]at this;exact Cp (Ac (.a x0 (.n 1)) (.n 200)) [Ac x1 (.n 190),Ac x0 x1] rT hNB this
  obtain⟨j,rfl⟩:=hx;refine Aa rfl (Al (Wb (Mg (Wb (Aa rfl (Wb (Aa rfl (To lq3 (H1 ps) g1 (Aa he (Aa (Up g2) (Aa rfl ?_)))))))))))
  have:=hQ _ (Be loc 2 (.ref (σ++j).length)) (j++[.list (ps.map D.str)]++j2) g3 g4 gg
  rw[←lq8,←lq8]at this;exact this
theorem zJr{n:Int}{st:St}{Q:D->St->Prop}(hQ:∀x j,(cl x).all Mv=true->x.length<=200->I6 (cl x)=true->Q (.str x) ⟨st.loc,st.sto++j⟩):W (H7 [.int n]) st Q:=by
 refine Bu rfl ?_
 unfold Nz;refine Ax (st1:=⟨Be (Dk Br [0] [.int n]) 1 (.int (n.fdiv 8)),st.sto⟩) rfl ?_
 generalize n.fdiv 8=more
 refine Da (b:=n.fmod 64==7) rfl (λ_=>?_) λ_=>Aa rfl (Da (b:=n.fmod 16==14) rfl (λ_=>?_) λ_=>Aa rfl (Da (b:=n.fmod 8==6) rfl (λ_=>?_) λ_=>Aa rfl ?_))
 ·have hm:=C6 (a:=more.fdiv 8) (b:=201) (by decide);exact Al (Wb (Wb (Aa rfl (Xz hm.1 (by exact H6 (Ac x0 (.n 300)) [Ae x0 (.n 201)] rT hm.2) λx j h1 h2 h3=>Aa rfl (hQ x j (Py h1) (by exact G9 (Vt (Ac x0 (.n 200)) [Ae x1 (.n 201),Ac x0 x1] rT hm.2 h2)) (Rx ⟨h1,h3⟩ (by rw[Bb];exact G9 (Vt (Ac x0 (.n 200)) [Ae x1 (.n 201),Ac x0 x1] rT hm.2 h2))))))))
 ·have hm:=C6 (a:=more.fdiv 2) (b:=60) (by decide);refine zA5 (more:=more) (N:=(1+(more.fdiv 2).fmod 60).toNat) (B:=2) (by decide) (by lia) (by exact G9 (Vt (Ac (.n 1) x0) [Ac (.n 0) x1,Ac (.a (.n 1) x1) x0] rT hm.1 (Hy _))) (A5 rfl (Bg (J7.mpr ⟨Dl.mpr ⟨by exact H6 (Ac (.s (.n 0) (.n 1099511627776)) (.a (.n 1) x0)) [Ac (.n 0) x0] rT hm.1,by exact H6 (Ae (.a (.n 1) x0) (.n 1099511627776)) [Ae x0 (.n 60)] rT hm.2⟩,rfl,rfl⟩))) rfl (λl σ' i hA=>?_) (λl σ' hA=>⟨124,[],by rw[lJ0];rfl,rfl,by decide⟩) λx l j h1 h2 h3=>hQ x j h1 h2 h3
  have hm3:=C6 (a:=more+i) (b:=3) (by decide);exact⟨_,_,A5 (Ab (Ab (A7 (i:=1) hA) rfl rfl) (Ab rfl rfl (En (by rw[Dt (by decide) (by decide)];rfl))) rfl) (A5 (A5 (Ab (Ab (A7 (i:=1) hA) rfl rfl) rfl rfl) rfl) rfl),hm3.1,by exact H6 (Ac x0 (.n 2)) [Ae x0 (.n 3)] rT hm3.2⟩
 ·have hm:=C6 (a:=more) (b:=4) (by decide);refine zA5 (more:=more) (N:=(1+more.fmod 4).toNat) (B:=8) (by decide) (by lia) (by exact G9 (Vt (Ac (.n 1) x0) [Ac (.n 0) x1,Ac (.a (.n 1) x1) x0] rT hm.1 (Hy _))) (A5 rfl (Bg (J7.mpr ⟨Dl.mpr ⟨by exact H6 (Ac (.s (.n 0) (.n 1099511627776)) (.a (.n 1) x0)) [Ac (.n 0) x0] rT hm.1,by exact H6 (Ae (.a (.n 1) x0) (.n 1099511627776)) [Ae x0 (.n 4)] rT hm.2⟩,rfl,rfl⟩))) rfl (λl σ' i hA=>?_) (λl σ' hA=>?_) λx l j h1 h2 h3=>hQ x j h1 h2 h3
  ·have hm3:=C6 (a:=more.fdiv 4+2*i) (b:=9) (by decide);exact⟨_,_,A5 (Ab (Ab (A7 (i:=1) hA) rfl rfl) (Ab rfl rfl (En (by rw[Dt (by decide) (by decide)];rfl))) rfl) (A5 (A5 (Ab (Ab (Ab (A7 (i:=1) hA) rfl rfl) (Ab rfl rfl (En (by rw[Dt (by decide) (by decide)];rfl))) rfl) rfl rfl) rfl) rfl),hm3.1,by exact H6 (Ac x0 (.n 8)) [Ae x0 (.n 9)] rT hm3.2⟩
  ·have hm4:=C6 (a:=more.fdiv 4) (b:=4) (by decide);have hix:∀k:Int,(more.fdiv 4).fmod 4=k→∀e:Nat,(∀S:St,S.sto[σ'.length]? =some (.list [.str (sO "|"),.str (sO "-"),.str (sO "+"),.str (sO ".")])→Aj (.ref σ'.length) (.int k) S=.ok (.str ⟨#[e]⟩) S)→plain e=true∧e≠32→∃e j,(Ad Aj (Cs (A9 (A8 (.str (sO "|"))) (A9 (A8 (.str (sO "-"))) (A9 (A8 (.str (sO "+"))) (A9 (A8 (.str (sO "."))) Ai))))) (Ad E1 (Ad Hq (A6 1) (A8 (.int 4))) (A8 (.int 4)))) ⟨l,σ'⟩=.ok (.str ⟨#[e]⟩) ⟨l,σ'++j⟩∧plain e=true∧e≠32:=λk hk e he hp=>
    ⟨e,[.list [.str (sO "|"),.str (sO "-"),.str (sO "+"),.str (sO ".")]],Ab rfl (Ab (Ab (A7 (i:=1) hA) rfl rfl) rfl rfl) (by rw[hk];exact he _ lq3),hp⟩
   have:(more.fdiv 4).fmod 4=0∨(more.fdiv 4).fmod 4=1∨(more.fdiv 4).fmod 4=2∨(more.fdiv 4).fmod 4=3:=by lia
   rcases this with q|q|q|q
   ·exact hix 0 q 124 (λS h=>(Bf h).trans rfl) ⟨rfl,by decide⟩
   ·exact hix 1 q 45 (λS h=>(Bf h).trans rfl) ⟨rfl,by decide⟩
   ·exact hix 2 q 43 (λS h=>(Bf h).trans rfl) ⟨rfl,by decide⟩
   ·exact hix 3 q 46 (λS h=>(Bf h).trans rfl) ⟨rfl,by decide⟩
 ·have hm:=C6 (a:=more) (b:=7) (by decide);have hm8:=C6 (a:=n) (b:=8) (by decide);have hmin:min 1 (n.fmod 8)=0∨min 1 (n.fmod 8)=1:=by lia
  have hmul:0<=more.fmod 7*min 1 (n.fmod 8)/\more.fmod 7*min 1 (n.fmod 8)<=200:=by
   rcases hmin with e|e<;>rw[e]<;>lia
  refine Al (Wb (Wb (Aa (A5 rfl (A5 (A5 (Ab rfl rfl (En (a:=more.fmod 7) (b:=min 1 (n.fmod 8)) (by rw[Dt (by exact H6 (Ae (.s (.n 0) (.n 1000000)) x0) [Ac (.n 0) x0] rT hm.1) (Int.lt_of_lt_of_le hm.2 (by decide))];rfl))) rfl) rfl)) (Xz hmul.1 (ik hmul.2 rfl) λx j h1 h2 h3=>Aa rfl (hQ x j (Py h1) (by exact G9 (lM2 h2 hmul.2)) (Rx ⟨h1,h3⟩ (by rw[Bb];exact G9 (lM2 h2 hmul.2))))))))
theorem zKm{ns:List Int}{k:Int}{st:St}{Q:D->St->Prop}(h0:0<=k)(hk:k<2 ^ 63)(hl:ns.length<2 ^ 62)(hQ:Q (.int (ns.getD k.toNat 0)) st):W (Ef [.scr ns,.int k]) st Q:=by
 refine Bu rfl (Da (b:=decide (k<ns.length)) (B8 rfl (A5 rfl (C8 hl)) rfl rfl) (λh=>?_) λh=>?_)
 ·have h:=lH3 h;have hlt:k.toNat<ns.length:=by exact Jf (lE8 (Int.le_of_eq (D5 (h0))) h)
  rw[lA2,lA9 hlt]at hQ;exact Al (Wb (Mg (Aa rfl (Aa rfl (zCb.mpr ⟨⟨h0,hk⟩,_,lA9 hlt,Aa rfl hQ⟩)))))
 ·have h:=lF8 h;rw[lA2,List.getElem?_eq_none (by exact G9 (lM2 (lN6.mp h) (Hy _)))]at hQ;exact Aa rfl (El rfl hQ)
theorem zFm{n:Int}{st:St}{Q:D->St->Prop}(hQ:∀m,1<=m->m<=20->Q (.int m) st):W (H8 [.int n]) st Q:=by
 refine Bu rfl (Da (b:=n.fmod 3==1) rfl (λ_=>?_) λ_=>?_)
 ·have:=C6 (a:=n.fdiv 9) (b:=20) (by decide)
  exact El rfl (hQ _ (by exact H6 (Ac (.n 1) (.a (.n 1) x0)) [Ac (.n 0) x0] rT this.1) (by exact H6 (Ac (.a (.n 1) x0) (.n 20)) [Ae x0 (.n 20)] rT this.2))
 ·have:=C6 (a:=n.fdiv 9) (b:=6) (by decide)
  exact Aa rfl (El rfl (hQ _ (by exact H6 (Ac (.n 1) (.a (.n 1) x0)) [Ac (.n 0) x0] rT this.1) (by exact H6 (Ac (.a (.n 1) x0) (.n 20)) [Ae x0 (.n 6)] rT this.2)))
theorem Ik{x:Str}{st:St}(hx:x.length+2<=sizeLine):E8 [.str x] st=.ok (.ref st.sto.length) ⟨st.loc,st.sto++[.list ((Txt.split x ⟨#[10]⟩).map D.str)]⟩:=
 Bg (Bu rfl (El (G5 (A5 rfl (A5 rfl (Bg (V1 hx ⟨rfl,rfl⟩))))) ⟨rfl,rfl⟩))
theorem Ov{x:Str}{st:St}{Q:D->St->Prop}(hx:x.length+2<=sizeLine)(h:Q (.ref st.sto.length) ⟨st.loc,st.sto++[.list ((Txt.split x ⟨#[10]⟩).map D.str)]⟩):W (E8 [.str x]) st Q:=Aa (Ik hx) h
theorem O4{α:Type}(f:α->Int)(l:List α):Dz (l.map λa=>D.int (f a))=some (l.map f):=by
 have:=Fa (l.map f)
 rw[lM3]at this;exact this
noncomputable def zMG (xs:List Str):List Int:=xs.map λx=>(x.length:Int)
noncomputable def Zh (x:Str):Int:=(zMG (Txt.split x ⟨#[10]⟩)).foldl max 0
theorem Pu:∀y,y∈Txt.split x ⟨#[10]⟩->y.length<=x.length:=λy m=>by
 have h1:(cl y)∈Cu 10 (cl x):=by rw[←Gu];exact lM4.mpr ⟨y,m,rfl⟩
 have gen:∀(l:List Nat) (p:List Nat),p∈Cu 10 l->p.length<=l.length:=by
  intro l
  induction l with
  |nil=>intro p m;simp[Cu]at m;rw[m];simp
  |cons c l ih=>
   intro p m;unfold Cu at m;by_cases h:c=10
   ·rw[lO6 h]at m;rcases lL5.mp m with rfl|m
    ·simp
    ·have:=ih p m;simp;exact Nat.le_add_right_of_le this
   ·rw[lO5 h]at m
    cases e:Cu 10 l with
    |nil=>exact absurd e (F7 10 l)
    |cons a s=>
     rw[e]at m ih;rcases lL5.mp m with rfl|m
     ·have:=ih a lq1;simp;exact this
     ·have:=ih p (lq4 _ m);simp;exact Nat.le_add_right_of_le this
 have:=gen _ _ h1
 rwa [Bb,Bb]at this
theorem zCZ(x:Str):Builtin.Str.strKind (⟨#[10]⟩:Str)<=Builtin.Str.strKind x:=by
 have:Builtin.Str.strKind (⟨#[10]⟩:Str)=1:=by decide+kernel
 rw[this];unfold Builtin.Str.strKind;split<;>(try split)<;>(try split)<;>lia
theorem I5:((Txt.split x ⟨#[10]⟩).length:Int)=Txt.count x ⟨#[10]⟩+1:=by
 unfold Txt.split Txt.count;have hc:(⟨#[10]⟩:Str).length=1:=rfl
 by_cases h1:(decide (x.length<(⟨#[10]⟩:Str).length)||decide (Builtin.Str.strKind x<Builtin.Str.strKind ⟨#[10]⟩))=true
 ·rw[lO6 h1];have:occurrences x ⟨#[10]⟩ 0 x.length (x.length+1)=[]:=by
   have hx0:x.length=0:=by
    simp only[hc,Bool.or_eq_true,lH2]at h1;rcases h1 with h1|h1
    ·exact Du (λZ=>An [_] [Ae x0 (.n 0),Ac (.n 0) x0] rT Z (lq5 _)) (λZ=>An [_] [Ae (.n 0) x0,Ae x0 (.n 1)] rT Z h1)
    ·have:Builtin.Str.strKind (⟨#[10]⟩:Str)<=Builtin.Str.strKind x:=zCZ x
     exact Du (λZ=>An [_,_] [Ae x0 x1,Ac x1 x0] rT h1 this) (λZ=>An [_,_] [Ae x0 x1,Ac x1 x0] rT h1 this)
   have e0:x=⟨#[]⟩:=by
    apply Qg
    rw[show cl (⟨#[]⟩:Str)=[]from rfl]
    exact lA1 (by rw[Bb];exact hx0)
   subst e0;decide+kernel
  rw[this];rfl
 ·rw[lO5 h1];by_cases h2:(occurrences x ⟨#[10]⟩ 0 x.length (x.length+1)).isEmpty=true
  ·rw[lO6 h2,List.isEmpty_iff.mp h2];rfl
  ·rw[lO5 h2,StrLaws.partsBetween_eq,Hj];exact Kl (λZ=>Az [_] [Ae (.a x0 (.n 1)) (.a x0 (.n 1))] rT Z) (λZ=>Az [_] [Ae (.a x0 (.n 1)) (.a x0 (.n 1))] rT Z)
theorem O3:(Txt.split x ⟨#[10]⟩).length<=x.length+2:=by
 have h1:=I5 (x:=x);unfold Txt.count at h1;have h2:=StrLaws.occ_length_le_len x ⟨#[10]⟩ 0 x.length (x.length+1);exact G9 (Zd λZ=>Az [(↑(Txt.split x {cps:= #[10]}).length),(↑x.length),(↑(occurrences x {cps:= #[10]} 0 x.length (x.length+1)).length),(↑(x.length+1 - 0))] [Ae (.a x1 (.n 2)) x0,eq1 x0 (.a x2 (.n 1)),Ac x2 x3,eq1 (.a x3 (.n 0)) (.a x1 (.n 1))] rT Z h1 (Cc h2) (O1 (Zd λY=>Az [(↑x.length)] [Ae (.a x0 (.n 1)) (.n 0),Ac (.n 0) x0] rT Y (cast_nn _))))
theorem zHC(x:Str):(zMG (Txt.split x ⟨#[10]⟩)).max? =some (Zh x):=by
 unfold Zh
 cases hs:Txt.split x ⟨#[10]⟩with
 |nil=>exact absurd hs (Un x 10)
 |cons p r=>
  show some (List.foldl max _ _)=some (List.foldl max (max 0 _) _)
  rw[Int.max_eq_right (cast_nn _:(0:Int)<=p.length)]
theorem zBq{x:Str}{st:St}{Q:D->St->Prop}(hx:x.length<=1000)(h:∀j,Q (.int (Zh x)) ⟨st.loc,st.sto++j⟩):W (Nk [.str x]) st Q:=by
 have hsm:=O3 (x:=x);have:=h ([.list ((Txt.split x ⟨#[10]⟩).map D.str)]++[.list ((Txt.split x ⟨#[10]⟩).map λy=>D.int y.length)])
 rw[←lq8]at this;exact Bu rfl (El (G5 (A5 (A5 (A5 (A5 (A5 rfl (Ik (lk (Nat.add_le_add_right hx 2) rfl))) (Cv lq3)) (Gl (λy:Str=>D.int y.length) (λ_=>True) (lk (lM7 hsm (Nat.add_le_add_right hx 2)) rfl) lq3 trivial (λ_ _ h=>h) λy m l _=>A5 rfl (C8 (zAm (lM7 (Pu y m) hx) rfl)))) rfl) (zDi lq3 (O4 _ _) (zHC x)))) this)
noncomputable def zNL (s:Sp):D:=.tup [.int s.1,.int s.2.1,.int s.2.2]
noncomputable def zAM:Mn Fl:=(Ag (Ex (C1 F2 (A6 6) (A6 3)) (Ag (Af (Af (A9 (A6 4) (A9 (Ad B0 (Ad Aj (A6 2) (A6 5)) (A6 7)) Ai)) Yi) (Ah 4))
 (A8 .next)) (A8 .next))
 (A8 .next))
structure zN2 (ks kf:Nat)(σ:C3)(F:List Int)(p:Int)(st:St):Prop where
 l1:st.loc 1=some (.ref ks)
 l2:st.loc 2=some (.ref kf)
 l3:st.loc 3=some (.int F.length)
 l4:st.loc 4=some (.int p)
 e:st.sto=σ++[.list (F.map D.int)]
inductive zOs (sp:List Sp)(ks kf:Nat)(σ:C3)(i:Nat)(st:St):Prop
 |mk (F:List Int) (h:Bp sp F) (hl:F.length=i+1) (l1:st.loc 1=some (.ref ks)) (l2:st.loc 2=some (.ref kf)) (e:st.sto=σ++[.list (F.map D.int)])
theorem zBD(J:zN2 ks kf σ F p ⟨l,σ'⟩)(hkf:kf=σ.length)(h0:0<=s.1)(h1:s.1<s.2.1)(hL:F.length<=2 ^ 62):
  W zAM ⟨Be (Be (Be l 5 (.int s.1)) 6 (.int s.2.1)) 7 (.int s.2.2),σ'⟩ λfl st'=>fl=.next/\zN2 ks kf σ F (Gr F F.length p s) st':=by
 obtain⟨l1,l2,l3,l4,e⟩:=J
 cases e;unfold zAM Gr;refine Da (b:=s.2.1==(F.length:Int)) (B8 rfl (A7 (i:=3) l3) rfl rfl) (λh=>?_) λh=>?_
 ·have h:=lN8.mp h;rw[lO6 h];exact Al (zLE (p:=p) l4 (Aa (Ab (Ab (A7 (i:=2) l2) rfl (Lx (by rw[hkf];exact lq3) h0 (h▸h1) hL)) rfl rfl) ⟨_,rfl,Aa rfl (Aa rfl ⟨rfl,l1,l2,l3,rfl,rfl⟩)⟩))
 ·rw[lO5 (ne_of_beq_false h)];exact Aa rfl (Aa rfl ⟨rfl,l1,l2,l3,l4,rfl⟩)
theorem Vk{α:Type}{f g:α->D}{l:List α}{xs:List D}(h:Bs (λx d=>∀a,d=f a->x=g a) xs (l.map f)):xs=l.map g:=by
 induction l generalizing xs with
 |nil=>cases h;rfl
 |cons a l ih=>cases h with
  |cons r rs=>exact congr (lO2 List.cons (r a rfl)) (ih rs)
noncomputable def zKx (x:Str):Int:=Txt.count x ⟨#[10]⟩
theorem zKU{α:Type}(l:List α){i:Int}(h0:0<=i)(h1:i<=l.length):G8 none (some i) l=l.take i.toNat:=by
 unfold G8 D1;have:max 0 (min (if i<0 then i+(l.length:Int)else i) (l.length:Int))=i:=by rw[lO5 (by exactλZ=>Az [_] [Ae x0 (.n 0),Ac (.n 0) x0] rT Z h0)];lia
 simp only[this,lK8,Int.toNat_zero,Int.sub_zero]
theorem zEK{α:Type}(l:List α){i:Int}(h0:0<=i)(h1:i<=l.length):G8 (some i) none l=l.drop i.toNat:=by
 unfold G8 D1;have:max 0 (min (if i<0 then i+(l.length:Int)else i) (l.length:Int))=i:=by rw[lO5 (by exactλZ=>Az [_] [Ae x0 (.n 0),Ac (.n 0) x0] rT Z h0)];lia
 simp only[this];rw[lC0];simp
 lia
theorem Oi(hk:S.sto[k]? =some (.list ds))(h0:0<=i)(h1:i<ds.length)(h2:ds.length<=2 ^ 62):Aj (.ref k) (.int i) S=.ok (ds[i.toNat]'(by exact Jf (lE8 (Int.le_of_eq (D5 (h0))) h1))) S:=
 Bg ((zCr h0 hk h1 h2).mpr ⟨rfl,rfl⟩)
theorem zAP(hk:S.sto[k]? =some (.list ds))(h2:ds.length<=sizeLine):Jb (.ref k) l h S=.ok (.ref S.sto.length) ⟨S.loc,S.sto++[.list (G8 l h ds)]⟩:=
 Bg (zCK.mpr ⟨ds,hk,h2,rfl,rfl⟩)
theorem P5(hk:S.sto[k]? =some (.list ds))(hl:S.sto[l]? =some (.list es))(h2:ds.length+es.length<=sizeLine):B0 (.ref k) (.ref l) S=.ok (.ref S.sto.length) ⟨S.loc,S.sto++[.list (ds++es)]⟩:=
 Bg (zBK.mpr ⟨ds,es,hk,hl,h2,rfl,rfl⟩)
theorem zKH(h:(cl x).all Mv=true):PyData.strOk x=true:=by
 unfold PyData.strOk;rw[←Array.all_toList];rw[lH7]at h ⊢;intro c m;have:=h c m
 unfold Mv plain at this;simp at this ⊢
 exact Or.elim this (λhd3=>X7 (Ae x0 (.n 1114112)) [eq1 x0 (.n 10)] rT hd3) (λhd3=>zAm hd3.2 rfl)
theorem Cq.set(x:Cq σ σ')(h:σ.length<=k):Cq σ (σ'.set k o):=by
 obtain⟨j,rfl⟩:=x;exact⟨j.set (k - σ.length) o,lC8 _ _ h⟩
theorem Im{σ:C3}{k:Nat}{o o':PO}(h:σ[k]? =some o):(σ.set k o')[k]? =some o':=by
 rw[lB8 (lq2 h).1]
theorem U2{σ:C3}{k m:Nat}{o o':PO}(h:σ[m]? =some o)(hn:k≠m):(σ.set k o')[m]? =some o:=by
 rw[lD3 hn];exact h
structure Cn where
 t:Nat
 l:Nat
 b:Nat
 r:Nat
 x:Str
noncomputable def Cn.mv (f g:Nat->Nat)(c:Cn):Cn:=⟨f c.t,g c.l,f c.b,g c.r,c.x⟩
noncomputable def lo (w:Bool)(c:Cn):Nat:=bif w then c.l else c.t
noncomputable def hi (w:Bool)(c:Cn):Nat:=bif w then c.r else c.b
noncomputable def wI (w:Bool):Int:=bif w then 1 else 0
noncomputable def Ce (c:Cn):D:=.tup [.int c.t,.int c.l,.int ((c.b:Int) - c.t),.int ((c.r:Int) - c.l),.str c.x]
theorem zJR:Aj (Ce c) (.int (wI w)) S=.ok (.int (lo w c)) S:=by cases w<;>rfl
theorem zDF(hv:mv S=.ok v S)(ho:mo S=.ok (.ref k) S)(hi:mi S=.ok (.int i) S)(hk:S.sto[k]? =some (.list ds))(h:0<=i/\i<ds.length/\ds.length<=sizeLine):
  J1 mv mo mi S=.ok .next ⟨S.loc,S.sto.set k (.list (ds.set i.toNat v))⟩:=
 A5 hv (A5 ho (A5 hi ((Bf hk).trans (C8 h))))
theorem Er{k:Nat}{ds:List D}{v:D}{mo mt:Mn D}{S:St}(ho:mo S=.ok (.ref k) S)(hk:S.sto[k]? =some (.list ds))(hl:ds.length<=sizeLine)(ht:mt S=.ok v S):
  Af (Af mo (Dh λk=>Af mt (Bt k))) Ct S=.ok .next ⟨S.loc,S.sto.set k (.list (ds++[v]))⟩:=
 A5 (b:=D.none) (A5 ho ((Bf hk).trans (A5 ht (Bg (Ys hk hl ⟨rfl,rfl⟩))))) rfl
theorem zFE{k:Nat}{ds ds0:List D}{v:D}{mo mt:Mn D}{S S1:St}(ho:mo S=.ok (.ref k) S)(h0:S.sto[k]? =some (.list ds0))(ht:mt S=.ok v S1)(hk:S1.sto[k]? =some (.list ds))(hl:ds.length<=sizeLine):
  Af (Af mo (Dh λk=>Af mt (Bt k))) Ct S=.ok .next ⟨S1.loc,S1.sto.set k (.list (ds++[v]))⟩:=
 A5 (b:=D.none) (A5 ho ((Bf h0).trans (A5 ht (Bg (Ys hk hl ⟨rfl,rfl⟩))))) rfl
theorem Ij(h:b≠0):E1 (.int a) (.int b) S=.ok (.int (a.fmod b)) S:=C8 h
theorem zHK(h:b≠0/\b.natAbs<1073741824):Hq (.int a) (.int b) S=.ok (.int (a.fdiv b)) S:=C8 h
theorem Th(h:k=σ.length):(σ++[a]).set k b=σ++[b]:=by
 subst h;rw[lC8 _ _ (lN4 _),lN1];rfl
theorem zIU{n:Nat}(hn:n<=100){ks:Nat}{sp:List Sp}{st:St}{Q:D->St->Prop}(hk:st.sto[ks]? =some (.list (sp.map zNL)))(hsp:Ti sp)(hQ:∀F,Bp sp F->F.length=n+1->Q (.ref st.sto.length) ⟨st.loc,st.sto++[.list (F.map D.int)]⟩):W (M6 [.int n,.ref ks]) st Q:=by
 have hk2:∀x:PO,(st.sto++[x])[ks]? =some (.list (sp.map zNL)):=λx=>(Cq.app _ _).get hk
 refine Bu rfl (Ax (st1:=⟨Be (Dk Br [0,1] [.int n,.ref ks]) 2 (.ref st.sto.length),st.sto++[.list [.int 0]]⟩) rfl (Al (Wb (Aa (A5 rfl (zC4 (lk hn rfl))) ?_))))
 refine Oq (b:=1) rfl (zOs sp ks st.sto.length st.sto) (λ_ _ _=>trivial) (λi st' hi J=>?_) (λst' J=>?_) ⟨[0],.one sp,rfl,rfl,rfl,rfl⟩
 ·obtain⟨F,hF,hl,l1,l2,e⟩:=J;obtain⟨l,σ⟩:=st'
  cases e;rw[←hl];have hgk:(st.sto++[PO.list (F.map D.int)])[st.sto.length]? =some (.list (F.map D.int)):=lq3
  have hL:F.length<=1000:=by rw[hl];exact lM7 hi (lk hn rfl)
  have hp:0<F.length:=by rw[hl];exact Nat.succ_pos _
  refine⟨Be l 3 (.int F.length),rfl,Ax (run_set (Ab (Ab (A7 (i:=2) l2) rfl (Lx hgk (by exact H6 (Ac (.n 0) (.s x0 (.n 1))) [Ae (.n 0) x0] rT (F1 hp)) (by exact H6 (Ae (.s x0 (.n 1)) x0) [] rT) (lk hL rfl))) rfl rfl)) (Al (Wb (Aa (A5 (A7 (i:=1) l1) (Cv (hk2 _))) ?_)))⟩
  refine E2 (λdn=>zN2 ks st.sto.length st.sto F (dn.foldl (Gr F F.length) (F.getD ((F.length:Int) - 1).toNat 0+2))) (λ_ _ J=>J.e▸hk2 _) (λdn s rest st' he J=>?_) (λst' J=>?_) ⟨l1,l2,rfl,rfl,rfl⟩
  ·have hs:=hsp s (by rw[he];exact lC6 _ lq1)
   refine⟨_,rfl,(zBD J rfl hs.1 hs.2 (lk hL rfl)).mono ?_⟩
   rintro fl st2 ⟨rfl,J2⟩
   show zN2 _ _ _ _ (List.foldl _ _ _) _
   rw[List.foldl_append];exact J2
  ·obtain⟨l',σ'⟩:=st';obtain⟨m1,m2,m3,m4,e⟩:=J
   cases e;refine Ax (Er (A7 m2) hgk (by rw[lq6];exact lk hL rfl) (A7 m4)) (Aa rfl ⟨_,hF.app hsp,lq7,m1,m2,?_⟩)
   rw[lJ5];exact Th rfl
 ·obtain⟨F,hF,hl,l1,l2,e⟩:=J;refine El (G5 (A7 l2)) ?_
  show Q _ ⟨_,st'.sto⟩
  rw[e];exact hQ F hF hl
theorem P7{n:Nat}{S:St}(h:n<=1000):Cj [.int (n:Int)] S=.ok ⟨Ez 0 1 n,λ_=>True⟩ S:=Bg (J7.mpr ⟨Dl.mpr ⟨by exact H6 (Ac (.s (.n 0) (.n 1099511627776)) x0) [Ac (.n 0) x0] rT (cast_nn _),by exact zDH (Cc h) rfl⟩,rfl,rfl⟩)
noncomputable def Av (w:Bool)(cs:List Cn)(i:Nat):Bool:=cs.any λc=>lo w c==i
noncomputable def L6 (b:Nat->Bool)(n:Nat):List D:=(List.range (n+1)).map λ(i:Nat)=>D.int (kq b 0 i)
theorem Oc:(L6 b n).length=n+1:=by unfold L6;simp
theorem Uk:L6 b (n+1)=L6 b n++[.int (kq b 0 (n+1))]:=by unfold L6;rw[List.range_succ,lJ5];rfl
theorem Fh{b:Nat->Bool}{n x r:Nat}{i:Int}{S:St}(hr:S.sto[r]? =some (.list (L6 b n)))(hi:i=x)(hx:x<=n)(hn:n<=1000):Aj (.ref r) (.int i) S=.ok (.int (kq b 0 x)) S:=by
 subst hi;rw[Oi hr (by exact Zd λZ=>Az [(↑x)] [Ae x0 (.n 0),Ac (.n 0) x0] rT Z (cast_nn _)) (by rw[Oc];exact zLj λZ=>Az [(↑x),(↑n)] [Ac (.a x1 (.n 1)) x0,Ac x0 x1] rT Z (Cc hx)) (by rw[Oc];exact X6 λZ=>An [(n)] [Ae (.n 4611686018427387904) (.a x0 (.n 1)),Ac x0 (.n 1000)] rT Z hn)]
 congr 1
 unfold L6;rw[List.getElem_map,lF0];rfl
theorem zLK(e1:m S=.ok a S)(e2:n S=.ok b S):Ms m n S=.ok (a||b) S:=A5 e1 (by cases a<;>first|exact e2|rfl)
theorem zJj{w:Bool}{cs:List Cn}{k i:Nat}{S:St}(hk:S.sto[k]? =some (.list (cs.map λc=>D.int (lo w c)))):zIq (.int i) (.ref k) S=.ok (.bool (Av w cs i)) S:=by
 refine A5 (b:=Av w cs i) ((Bf hk).trans ?_) rfl
 rw[O4 λc=>(lo w c:Int)]
 show Re.ok ((cs.map λc=>(lo w c:Int)).contains (i:Int)) S=_
 rw[List.contains_eq_any_beq,List.any_map];congr 2
 funext n
 show((i:Int)==(lo w n:Int))=(lo w n==i)
 rw[Bool.eq_iff_iff,lN8,lN8];lia
structure zOV (k r:Nat)(σ:C3)(b:Nat->Bool)(i:Nat)(st:St):Prop where
 l1:st.loc 1=some (.ref k)
 l2:st.loc 2=some (.ref r)
 e:st.sto=σ++[.list (L6 b i)]
theorem zEI{n:Nat}{w:Bool}{cs:List Cn}{k:Nat}{st:St}{Q:D->St->Prop}(hn:n<=1000)(hk:st.sto[k]? =some (.list (cs.map λc=>D.int (lo w c))))
  (hQ:Q (.ref st.sto.length) ⟨st.loc,st.sto++[.list (L6 (Av w cs) n)]⟩):W (Sm [.int n,.ref k]) st Q:=by
 refine Bu rfl (Ax (st1:=⟨Be (Dk Br [0,1] [.int n,.ref k]) 2 (.ref st.sto.length),st.sto++[.list [.int 0]]⟩) rfl (Al (Wb (Aa (A5 rfl (P7 hn)) ?_))))
 refine Oq (b:=0) rfl (zOV k st.sto.length st.sto (Av w cs)) (λ_ _ _=>trivial) (λi st' hi J=>?_) (λst' J=>?_) ⟨rfl,rfl,rfl⟩
 ·obtain⟨l,σ⟩:=st';obtain⟨l1,l2,e⟩:=J
  cases e;have hi:=lM6 (lF5 hi hn);have hg:(st.sto++[PO.list (L6 (Av w cs) i)])[st.sto.length]? =some (.list (L6 (Av w cs) i)):=lq3
  have hr:Ad Aj (A6 2) (A6 3) ⟨Be l 3 (.int i),st.sto++[PO.list (L6 (Av w cs) i)]⟩=.ok (.int (kq (Av w cs) 0 i)) ⟨Be l 3 (.int i),st.sto++[PO.list (L6 (Av w cs) i)]⟩:=Ab (A7 (i:=2) l2) rfl (Fh hg rfl (lN4 _) hi)
  have hc:Ms (C1 F2 (A6 3) (A8 (.int 0))) (C1 zIq (A6 3) (A6 1)) ⟨Be l 3 (.int i),st.sto++[PO.list (L6 (Av w cs) i)]⟩=.ok (Nat.ble i 0||Av w cs i) ⟨Be l 3 (.int i),st.sto++[PO.list (L6 (Av w cs) i)]⟩:=by
   refine zLK (B8 (t:=Nat.ble i 0) rfl rfl rfl ?_) (B8 rfl (A7 (i:=1) l1) (zJj ((Cq.app _ _).get hk)) rfl)
   show Re.ok ((i:Int)==0) _=_
   congr 1
   rw[Bool.eq_iff_iff,lN8,Nat.ble_eq];lia
  have hl:(L6 (Av w cs) i).length<=sizeLine:=by rw[Oc];exact lk (lI6 hi) rfl
  have go:∀{v:Int},v=kq (Av w cs) 0 (i+1)->zOV k st.sto.length st.sto (Av w cs) (i+1) ⟨Be l 3 (.int i),(st.sto++[PO.list (L6 (Av w cs) i)]).set st.sto.length (.list (L6 (Av w cs) i++[.int v]))⟩:=λhv=>⟨l1,l2,by rw[Uk,←hv];exact Th rfl⟩
  refine⟨Be l 3 (.int i),rfl,Al (zM0 hc (λhb=>?_) λhb=>?_)⟩
  ·exact Ax (Er (A7 (i:=2) l2) hg hl (Ab hr rfl rfl)) (Aa rfl (Aa rfl (go (by rw[Ta,hb];rfl))))
  ·exact Ax (Er (A7 (i:=2) l2) hg hl hr) (Aa rfl (Aa rfl (go (by rw[Ta,hb];rfl))))
 ·refine El (G5 (A7 J.l2)) ?_
  show Q _ ⟨_,st'.sto⟩
  rw[J.e];exact hQ
noncomputable def zIY (a b:Cn):Prop:=a.t<b.t∨a.t=b.t/\a.l<b.l
noncomputable def Kv (c:Cn):Int×Int:=((c.t:Int),(c.l:Int))
theorem zAK{cs:List Cn}(hs:cs.Pairwise zIY)(hb:∀c,c∈cs->c.l<1000):cs.Pairwise λa b=>Co (Kv a)<Co (Kv b):=hs.imp_of_mem λ{a b} ma mb h=>by
 have h1:=hb a ma;have h2:=hb b mb;unfold zIY at h;unfold Co Kv;dsimp only;lia
theorem zC1{cs cs0:List Cn}(p:cs.Perm cs0)(hs:cs0.Pairwise zIY)(hb:∀c,c∈cs0->c.l<1000):Kr (cs.map Ce) (cs.map Kv)=cs0.map Ce:=by
 have hlt:=zAK hs hb;have ez:∀l:List Cn,(l.map Ce).zip (l.map Kv)=l.map λc=>(Ce c,Kv c):=λl=>by
  induction l with
  |nil=>rfl
  |cons a l ih=>rw[lL4,lL4,List.zip_cons_cons,ih,lL4]
 have e:=Fj (f:=λq:D×(Int×Int)=>Co q.2) (l:=((cs.map Ce).zip (cs.map Kv)).mergeSort λa b=>decide (Co a.2<=Co b.2)) (m:=cs0.map λc=>(Ce c,Kv c)) ((List.mergeSort_perm _ _).trans (by rw[ez];exact p.map _)) (Ln _ _) (lG6.mpr (hlt.imp λh=>lM1 h)) (by
  rw[lM3];exact lG6.mpr (hlt.imp λh=>Int.ne_of_lt h))
 unfold Kr;rw[e,lM3];rfl
theorem Wt{F:List D->Mn D}{cs cs0:List Cn}{k:Nat}{st:St}{Q:D->St->Prop}(hFk:∀c st,F [Ce c] st=.ok (.tup [.int c.t,.int c.l]) st)(hk:st.sto[k]? =some (.list (cs.map Ce)))(p:cs.Perm cs0)(hl:cs0.length<=400)(hs:cs0.Pairwise zIY)(hb:∀c,c∈cs0->c.l<1000)
  (hQ:Q (.ref st.sto.length) ⟨st.loc,st.sto++[.list (cs0.map Ce)]⟩):W (E4 F [.ref k]) st Q:=by
 have hK:L9 F st (cs.map Ce) (cs.map Kv):=by
  refine⟨by rw[lq6,p.length_eq];exact lk hl rfl,?_,?_⟩
  ·have:∀l:List Cn,(∀c,c∈l->c.l<1000)->Bs (λd (p:Int×Int)=>F [d] st=.ok (.tup [.int p.1,.int p.2]) st/\0<=p.2/\p.2<1048576) (l.map Ce) (l.map Kv):=by
    intro l
    induction l with
    |nil=>intro _;exact .nil
    |cons c l ih=>
     intro h;have:=h c lq1
     exact .cons ⟨hFk _ _,by show(0:Int)<=(c.l:Int);exact(cast_nn _),by show(c.l:Int)<1048576;exact Int.lt_of_lt_of_le (F1 this) (by decide)⟩ (ih λc m=>h c (lq4 _ m))
   exact this cs λc m=>hb c (p.mem_iff.mp m)
  ·rw[lM3];exact(p.map _).nodup_iff.mpr (lG6.mpr ((zAK hs hb).imp λh=>Int.ne_of_lt h))
 rw[←zC1 p hs hb]at hQ;exact zAo hk hK hQ
noncomputable abbrev qL:Str:=sO "in_order.<locals>.<lambda>"
noncomputable def Dr (σ:C3):Prop:=∃k,σ[0]? =some (.ctab Kk 53 29 qL k)/\∀m,k=some m->σ[m]? =some (.code qL)
noncomputable def Kp (σ σ':C3):Prop:=σ.length<=σ'.length/\∀(i:Nat) (ds:List D),σ[i]? =some (PO.list ds)->σ'[i]? =some (PO.list ds)
theorem Cq.kp(x:Cq σ σ'):Kp σ σ':=⟨x.len,λ_ _ e=>x.get e⟩
theorem Kp.trans(x:Kp a b)(y:Kp b c):Kp a c:=⟨lM7 x.1 y.1,λi ds e=>y.2 i ds (x.2 i ds e)⟩
theorem Dr.ext(h:Dr σ)(x:Cq σ σ'):Dr σ':=by obtain⟨k,e,hk⟩:=h;exact⟨k,x.get e,λm q=>x.get (hk m q)⟩
theorem zAX{k:Option Nat}{st:St}(e:st.sto[0]? =some (.ctab Kk 53 29 qL k)):zBl 0 Kk 53 29 qL st=zJh 0 Kk 53 29 qL k st:=by
 show zFb st.sto[0]? _=_
 rw[e];show(if Kk=Kk/\53=53/\29=29/\qL=qL then zJh 0 Kk 53 29 qL k else botM) st=_
 exact C8 ⟨rfl,rfl,rfl,rfl⟩
theorem zNG{st:St}{Q:Unit->St->Prop}(h:Dr st.sto)(hQ:∀σ',Dr σ'->Kp st.sto σ'->Q () ⟨st.loc,σ'⟩):W (zBl 0 Kk 53 29 qL) st Q:=by
 obtain⟨k,e,hk⟩:=h;have hlt:0<st.sto.length:=(lq2 e).1
 cases k with
 |none=>
  refine⟨(),⟨st.loc,st.sto.set 0 (.ctab Kk 53 29 qL (some st.sto.length))++[.code qL]⟩,(zAX e).trans rfl,hQ _ ⟨some st.sto.length,?_,λm q=>?_⟩ ⟨by simp,λi ds q=>?_⟩⟩
  ·rw[lA6 (by simpa using hlt),lB8 hlt]
  ·cases q;rw[lA3 (by simp)];simp
  ·have hi:=(lq2 q).1;have h0:i≠0:=λz=>by rw[z,e]at q;cases q
   rw[lA6 (by simpa using hi),lD3 (Ne.symm h0)];exact q
 |some m=>
  have hm:=hk m rfl;exact⟨(),st,(zAX e).trans (by show(if Ts qL st.sto[m]? =true then(A8 ():Mn Unit)else botM) st=_;rw[hm];exact C8 (by decide+kernel)),hQ st.sto ⟨some m,e,hk⟩ ⟨lN4 _,λ_ _ e=>e⟩⟩
theorem Qd{cs0 cs:List Cn}{k:Nat}{st:St}{Q:D->St->Prop}(h0:Dr st.sto)(hk:st.sto[k]? =some (.list (cs0.map Ce)))(p:cs0.Perm cs)(hl:cs.length<=400)(hs:cs.Pairwise zIY)(hb:∀c,c∈cs->c.l<1000)
  (hQ:∀r σ',Dr σ'->Kp st.sto σ'->st.sto.length<=r->σ'[r]? =some (.list (cs.map Ce))->Q (.ref r) ⟨st.loc,σ'⟩):W (Iu [.ref k]) st Q:=by
 refine Bu rfl ?_
 unfold P1;refine Al (Wb (Wb (Aa rfl (Wb (zNG h0 λσ' t' k'=>Wt (λ_ _=>rfl) (k'.2 _ _ hk) p hl hs hb (Aa rfl ?_))))))
 exact hQ σ'.length _ (t'.ext (.app _ _)) (k'.trans (Cq.app _ _).kp) k'.1 lq3
theorem zAa{w:Bool}{a b:D}{cs:List Cn}{k:Nat}{loc:Bm}{σ:C3}(h0:loc 0=some (.tup [a,b,.ref k]))(hk:σ[k]? =some (.list (cs.map Ce)))(hl:cs.length<=400):
  Af (Af (Ad Aj (A6 0) (A8 (.int 2))) Bq) (C7 [11] (As 11) (A8 true) (Ad Aj (A6 11) (A8 (.int (wI w))))) ⟨loc,σ⟩=.ok (.ref σ.length) ⟨loc,σ++[.list (cs.map λc=>D.int (lo w c))]⟩:=
 A5 (A5 (Ab (A7 h0) rfl rfl) (Cv hk)) (Gl (λc=>D.int (lo w c)) (λ_=>True) (lk hl rfl) hk trivial (λ_ _ h=>h) λc m l _=>Ab rfl rfl zJR)
structure zEb (R C:Nat)(cs:List Cn):Prop where
 len:cs.length<=400
 srt:cs.Pairwise zIY
 row:∀c,c∈cs->c.t<=c.b/\c.b<=R
 col:∀c,c∈cs->c.l<=c.r/\c.r<=C
 r1:1<=R
 c1:1<=C
 r2:R<=60
 c2:C<=60
 tx:∀c,c∈cs->(cl c.x).all Mv=true
noncomputable def Dn (cs:List Cn):List Cn:=cs.map (Cn.mv (kq (Av false cs) 0) (kq (Av true cs) 0))
theorem Ni(m:c∈cs):Av w cs (lo w c)=true:=lH8.mpr ⟨c,m,beq_self_eq_true _⟩
theorem Uv(ma:a∈cs)(mb:b∈cs)(h:zIY a b):zIY (a.mv (kq (Av false cs) 0) (kq (Av true cs) 0)) (b.mv (kq (Av false cs) 0) (kq (Av true cs) 0)):=by
 rcases h with h|⟨h1,h2⟩
 ·exact .inl (Nq (.inl (Ni (w:=false) ma)) h)
 ·exact .inr ⟨lO2 (kq (Av false cs) 0) h1,Nq (.inl (Ni (w:=true) ma)) h2⟩
theorem zDf(ok:zEb R C cs):zEb (kq (Av false cs) 0 R) (kq (Av true cs) 0 C) (Dn cs):=by
 have h1:=ok.r1;have h2:=ok.c1;refine⟨by unfold Dn;rw[lq6];exact ok.len,lG6.mpr (ok.srt.imp_of_mem λ{a b} ma mb h=>Uv ma mb h),λc m=>?_,λc m=>?_,?_,?_,lM7 (Uo _) ok.r2,lM7 (Uo _) ok.c2,λc m=>?_⟩
 ·obtain⟨e,me,rfl⟩:=lM4.mp m;exact⟨D9 _ (ok.row e me).1,D9 _ (ok.row e me).2⟩
 ·obtain⟨e,me,rfl⟩:=lM4.mp m;exact⟨D9 _ (ok.col e me).1,D9 _ (ok.col e me).2⟩
 ·have:=D9 (b:=Av false cs) (a:=0) R h1
  rw[zAk 1 (lN4 _)]at this;exact this
 ·have:=D9 (b:=Av true cs) (a:=0) C h2
  rw[zAk 1 (lN4 _)]at this;exact this
 ·obtain⟨e,me,rfl⟩:=lM4.mp m;exact ok.tx e me
structure zOw (T:D)(kr kc kf:Nat)(l:Bm):Prop where
 l0:l 0=some T
 l1:l 1=some (.ref kr)
 l2:l 2=some (.ref kc)
 l3:l 3=some (.ref kf)
structure zPE (T:D)(kr kc kf:Nat)(σ:C3)(ds:List Cn)(st:St):Prop where
 ll:zOw T kr kc kf st.loc
 ext:Cq σ st.sto
 lst:st.sto[kf]? =some (.list (ds.map Ce))
theorem zAd{R C:Nat}{cs:List Cn}{k:Nat}{st:St}{Q:D->St->Prop}(h0:Dr st.sto)(ok:zEb R C cs)(hk:st.sto[k]? =some (.list (cs.map Ce)))
  (hQ:∀r σ',Dr σ'->Kp st.sto σ'->st.sto.length<=r->σ'[r]? =some (.list ((Dn cs).map Ce))->Q (.tup [.int (kq (Av false cs) 0 R),.int (kq (Av true cs) 0 C),.ref r]) ⟨st.loc,σ'⟩):W (Oo [.tup [.int R,.int C,.ref k]]) st Q:=by
 have hsl:(1000:Nat)<=sizeLine:=by decide
 have hcl:=ok.len;have hr2:=ok.r2;have hc2:=ok.c2;refine Bu rfl ?_
 unfold zAi;refine Al (Wb (Wb (Wb (Aa rfl (Wb (Wb (Aa (zAa (w:=false) (a:=.int R) (b:=.int C) (cs:=cs) rfl hk hcl) (Aa rfl (Aa rfl (zEI (n:=R) (w:=false) (lk hr2 rfl) lq3 (Aa rfl ?_)))))))))))
 generalize hs1:st.sto++[PO.list (cs.map λc=>D.int (lo false c))]=σ1
 have x1:Cq st.sto σ1:=by rw[←hs1];exact .app _ _
 refine Al (Wb (Wb (Wb (Aa rfl (Wb (Wb (Aa (zAa (w:=true) (a:=.int R) (b:=.int C) (cs:=cs) rfl ((x1.trans (.app _ _)).get hk) hcl) (Aa rfl (Aa rfl (zEI (n:=C) (w:=true) (lk hc2 rfl) lq3 (Aa rfl ?_)))))))))))
 have g1:(σ1++[PO.list (L6 (Av false cs) R)])[σ1.length]? =some (.list (L6 (Av false cs) R)):=lq3
 generalize hs2:σ1++[PO.list (L6 (Av false cs) R)]++[PO.list (cs.map λc=>D.int (lo true c))]=σ2
 have g1':σ2[σ1.length]? =some (.list (L6 (Av false cs) R)):=by rw[←hs2];exact(Cq.app _ _).get g1
 have x2:Cq st.sto σ2:=by rw[←hs2];exact(x1.trans (.app _ _)).trans (.app _ _)
 generalize hs3:σ2++[PO.list (L6 (Av true cs) C)]=σ3
 have g2:σ3[σ2.length]? =some (.list (L6 (Av true cs) C)):=by rw[←hs3];exact lq3
 have g1:σ3[σ1.length]? =some (.list (L6 (Av false cs) R)):=by rw[←hs3];exact(Cq.app _ _).get g1'
 have x3:Cq st.sto σ3:=by rw[←hs3];exact x2.trans (.app _ _)
 generalize σ1.length=kr at g1
 generalize σ2.length=kc at g2
 have b0:Dk Br [0] [D.tup [.int (R:Int),.int (C:Int),.ref k]] 0=some (.tup [.int (R:Int),.int (C:Int),.ref k]):=rfl
 generalize Dk Br [0] [D.tup [.int (R:Int),.int (C:Int),.ref k]]=lb at b0
 refine Ax (st1:=⟨Be (Be (Be lb 1 (.ref kr)) 2 (.ref kc)) 3 (.ref σ3.length),σ3++[.list []]⟩) rfl (Al (Wb (Aa (A5 (Ab (A7 (i:=0) b0) rfl rfl) (Cv ((Cq.app _ _).get (x3.get hk)))) ?_)))
 refine E2 (λdn st'=>zPE (.tup [.int (R:Int),.int (C:Int),.ref k]) kr kc σ3.length σ3 (dn.map (Cn.mv (kq (Av false cs) 0) (kq (Av true cs) 0))) st') (λ_ _ J=>J.ext.get (x3.get hk)) (λdn c rest st' he J=>?_) (λst4 J=>?_) ⟨⟨b0,rfl,rfl,rfl⟩,.app _ _,lq3⟩
 ·have mc:c∈cs:=by rw[he];exact lC6 _ lq1
  have hgr:=ok.row c mc;have hgc:=ok.col c mc;have hdl:=lO2 List.length he;simp only[lq7,lI0]at hdl;have L:=J.ll;have q1:∀{l:Bm}{i:Int}{x:Nat},i=x->x<=R->Aj (.ref kr) (.int i) ⟨l,st'.sto⟩=.ok (.int (kq (Av false cs) 0 x)) ⟨l,st'.sto⟩:=λe h=>Fh (J.ext.get g1) e h (by exact lk hr2 rfl)
  have q2:∀{l:Bm}{i:Int}{x:Nat},i=x->x<=C->Aj (.ref kc) (.int i) ⟨l,st'.sto⟩=.ok (.int (kq (Av true cs) 0 x)) ⟨l,st'.sto⟩:=λe h=>Fh (J.ext.get g2) e h (by exact lk hc2 rfl)
  refine⟨Be (Be (Be (Be (Be st'.loc 4 (.int c.t)) 5 (.int c.l)) 6 (.int ((c.b:Int) - c.t))) 7 (.int ((c.r:Int) - c.l))) 8 (.str c.x),rfl,?_⟩
  refine Ax (run_set (Ab (Ab (A7 (i:=1) L.l1) (Ab rfl rfl rfl) (q1 (x:=c.b) (by lia) hgr.2)) (Ab (A7 (i:=1) L.l1) rfl (q1 (x:=c.t) rfl (by lia))) rfl)) ?_
  refine Ax (run_set (Ab (Ab (A7 (i:=2) L.l2) (Ab rfl rfl rfl) (q2 (x:=c.r) (by lia) hgc.2)) (Ab (A7 (i:=2) L.l2) rfl (q2 (x:=c.l) rfl (by lia))) rfl)) ?_
  refine Ax (Er (v:=Ce (c.mv (kq (Av false cs) 0) (kq (Av true cs) 0))) (A7 (i:=3) L.l3) J.lst (by rw[lq6,lq6];lia) (Kj (A5 (Ab (A7 (i:=1) L.l1) rfl (q1 (x:=c.t) rfl (by lia))) (A5 (A5 (Ab (A7 (i:=2) L.l2) rfl (q2 (x:=c.l) rfl (by lia))) (A5 rfl rfl)) rfl)) (by decide:5<=sizeLine))) (Aa rfl ⟨⟨L.l0,L.l1,L.l2,L.l3⟩,J.ext.set (lN4 _),?_⟩)
  rw[lJ5,lJ5];exact Im J.lst
 ·have ok':=zDf ok;have x4:=x3.trans J.ext;have L:=J.ll;refine Al (Wb (Wb (Wb (Aa (Ab (A7 (i:=1) L.l1) (Ab (A7 (i:=0) L.l0) rfl rfl) (Fh (x:=R) (J.ext.get g1) rfl (lN4 _) (by exact lk hr2 rfl))) (Wb (Wb (Aa (Ab (A7 (i:=2) L.l2) (Ab (A7 (i:=0) L.l0) rfl rfl) (Fh (x:=C) (J.ext.get g2) rfl (lN4 _) (by exact lk hc2 rfl))) (Wb (Wb (Wb (Aa (A5 (A7 (i:=3) L.l3) rfl) ?_)))))))))))
  refine Qd (h0.ext x4) J.lst (.refl _) ok'.len ok'.srt (λc m=>?_) λr σ'' t' k' hrl hr'=>?_
  ·have hq1:=ok'.col c m;have hq2:=ok'.c2;lia
  ·exact Aa rfl (Aa rfl (Aa rfl (Aa rfl (Aa rfl (hQ r σ'' t' (x4.kp.trans k') (lM7 x4.len hrl) hr')))))
end
section
variable {α:Type}{lo hi:α->Nat}{rm:α->Int}{l:List α}{b:Nat->Bool}{N:Nat}{F G:List Int}
theorem zAO(hx:1<=x):1<=kq b 0 x:=by
 have:=D9 (b:=b) (a:=0) x hx
 rw[zAk 1 (lN4 _)]at this;exact this
end
theorem T8:∀{sp:List Sp}{p:Int},p<=sp.foldl (Gr F k) p/\∀s,s∈sp->s.2.1=k->F.getD s.1.toNat 0+s.2.2<=sp.foldl (Gr F k) p
 |[],p=>⟨lN3 _,λ_ m=>nomatch m⟩
 |s::sp,p=>by
  obtain⟨h1,h2⟩:=T8 (F:=F) (k:=k) (sp:=sp) (p:=Gr F k p s)
  have h3:p<=Gr F k p s:=by unfold Gr;split<;>lia
  refine⟨lM2 h3 h1,λt m e=>?_⟩
  rcases lL5.mp m with rfl|m
  ·refine lM2 ?_ h1
   unfold Gr;rw[lO6 e];lia
  ·exact h2 t m e
theorem zAJ:∀{sp:List Sp}{p:Int},p<=M->(∀s,s∈sp->s.2.1=k->F.getD s.1.toNat 0+s.2.2<=M)->sp.foldl (Gr F k) p<=M
 |[],p,h,_=>h
 |s::sp,p,h,h2=>by
  refine zAJ (sp:=sp) (p:=Gr F k p s) ?_ λt m e=>h2 t (lq4 _ m) e
  unfold Gr;split
  ·rename_i e;have hq1:=h2 s lq1 e;lia
  ·exact h
theorem Bp.up(L:Bp sp F)(h:k+1<F.length):F.getD k 0+2<=F.getD (k+1) 0:=by
 rw[L.step (k+1) (lI6 (lq5 _)) h];unfold Ny;have:=(T8 (F:=F) (k:=((k+1:Nat):Int)) (sp:=sp) (p:=F.getD (((k+1:Nat):Int) - 1).toNat 0+2)).1
 rw[show(((k+1:Nat):Int) - 1).toNat=k by lia]at this ⊢
 exact this
theorem Bp.at0(L:Bp sp F):F.getD 0 0=0:=by rw[lA2,L.zero];rfl
theorem Bp.mono(L:Bp sp F):∀{j:Nat},i<=j->j<F.length->F.getD i 0+2*((j:Int) - i)<=F.getD j 0
 |0,h,_=>by rw[Nat.le_zero.mp h];exact H6 (Ac (.a x0 (.m 2 (.s (.n 0) (.n 0)))) x0) [] rT
 |j+1,h,h2=>by
  rcases lF6 h with q|q
  ·have h3:=L.mono (i:=i) (j:=j) (lG8 q) (by exact Cp (Ae x0 x1) [Ae (.a x0 (.n 1)) x1] rT h2);have h4:=L.up h2;exact Zd λZ=>Az [(↑i),(↑j),(F.getD i 0),(F.getD (j+1) 0),(F.getD j 0)] [Ae x3 (.a x2 (.m 2 (.s (.a x1 (.n 1)) x0))),Ac (.a x2 (.m 2 (.s x1 x0))) x4,Ac (.a x4 (.n 2)) x3] rT Z h3 h4
  ·rw[q];exact Zd λZ=>Az [(↑j),(F.getD (j+1) 0)] [Ae x1 (.a x1 (.m 2 (.s (.a x0 (.n 1)) (.a x0 (.n 1)))))] rT Z
theorem Bp.room{sp:List Sp}{F:List Int}(L:Bp sp F){s:Sp}(m:s∈sp){k:Nat}(e:s.2.1=k)(h1:1<=k)(h2:k<F.length):F.getD s.1.toNat 0+s.2.2<=F.getD k 0:=by
 rw[L.step k h1 h2];exact(T8 (F:=F)).2 s m e
theorem Bp.bound(L:Bp sp F)(ok:Ti sp)(hM:2<=M)(hr:∀s,s∈sp->s.2.2<=M):∀n k:Nat,k<=n->k<F.length->F.getD k 0<=M*k
 |n,0,_,_=>by rw[L.at0,Int.natCast_zero,Int.mul_zero];exact lN3 _
 |0,k+1,h,_=>absurd h (by exactλZ=>An [_] [Ac (.a x0 (.n 1)) (.n 0),Ac (.n 0) x0] rT Z (lq5 _))
 |n+1,k+1,h,h2=>by
  have ih:∀j:Nat,j<=k->F.getD j 0<=M*j:=λj hj=>L.bound ok hM hr n j (by exact Ck (Ac x1 x0) [Ac (.a x2 (.n 1)) (.a x0 (.n 1)),Ac x1 x2] rT h hj) (by exact Ck (Ae x1 x0) [Ae (.a x2 (.n 1)) x0,Ac x1 x2] rT h2 hj)
  have up:∀j:Nat,j<=k->F.getD j 0+M<=M*((k+1:Nat):Int):=λj hj=>by
   have h1:=ih j hj;have h2:M*(j:Int)<=M*(k:Int):=Int.mul_le_mul_of_nonneg_left (by exact(Cc hj)) (zDI hM rfl)
   rw[show((k+1:Nat):Int)=(k:Int)+1 by exact Kl (λZ=>Az [_] [Ae (.a x0 (.n 1)) (.a x0 (.n 1))] rT Z) (λZ=>Az [_] [Ae (.a x0 (.n 1)) (.a x0 (.n 1))] rT Z),Int.mul_add,Int.mul_one]
   exact zN7 (Ac (.a x1 x0) (.a x2 x0)) [Ac x1 x3,Ac x3 x2] rT h1 h2
  rw[L.step (k+1) (by exact X7 (Ac (.n 1) (.a x0 (.n 1))) [Ac (.n 0) x0] rT (lq5 _)) h2];unfold Ny;refine zAJ ?_ λs m e=>?_
  ·rw[show(((k+1:Nat):Int) - 1).toNat=k by lia]
   have:=up k (lN4 _)
   exact zIX (Ac (.a x0 (.n 2)) x1) [Ac (.n 2) x2,Ac (.a x0 x2) x1] rT hM this
  ·have h1:=ok s m;have h3:=up s.1.toNat (by exact G9 (zN7 (Ac x1 x0) [eq1 x2 (.a x0 (.n 1)),Ae x3 x2,eq1 x1 x3] rT e h1.2 (D5 (h1.1))));have h4:=hr s m;exact zN7 (Ac (.a x0 x2) x1) [Ac (.a x0 x3) x1,Ac x2 x3] rT h3 h4
section
open Builtin.Str
noncomputable def zFP (c:Nat):D:=.str ⟨#[c]⟩
noncomputable def Ir (f:Nat->Nat)(w:Nat):List D:=(List.range w).map λx=>zFP (f x)
noncomputable def Pn (n h:Nat):List D:=(List.range h).map λi=>D.ref (n+2*i+1)
theorem Gw{f:Nat->Nat}{w:Nat}:(Ir f w).length=w:=by unfold Ir;simp
theorem Vf:(Pn n h).length=h:=by unfold Pn;simp
theorem Ls{f:Nat->Nat}{w j:Nat}(h:j<(Ir f w).length):(Ir f w)[j]=zFP (f j):=by simp only[Ir,List.getElem_map,lF0]
theorem zDA(hh:j<(Pn n h).length):(Pn n h)[j]=.ref (n+2*j+1):=by simp only[Pn,List.getElem_map,lF0]
theorem zDY:(Ir f w).set x (zFP c)=Ir (λj=>if j=x then c else f j) w:=by
 refine lH9 (by rw[lJ4,Gw,Gw]) λj h1 h2=>?_
 rw[List.getElem_set,Ls,Ls];by_cases h:x=j
 ·rw[lO6 h,lO6 h.symm]
 ·rw[lO5 h,lO5 (Ne.symm h)]
structure Bd (n h w kb:Nat)(B:Bo)(σ0 σ:C3):Prop where
 wd:h<=100000/\w<=100000
 len:σ0.length<=σ.length
 kbd:σ[kb]? =some (.list (Pn n h))
 row:∀i,i<h->σ[n+2*i+1]? =some (.list (Ir (B i) w))
 off:∀i,i<h->kb≠n+2*i+1
 keep:∀(k:Nat) (o:PO),σ0[k]? =some o->(∀i,i<h->k≠n+2*i+1)->σ[k]? =some o
section
variable {n h w kb:Nat}{B:Bo}{σ0 σ:C3}
theorem Bd.here(b:Bd n h w kb B σ0 σ):Bd n h w kb B σ σ:=⟨b.wd,lN4 _,b.kbd,b.row,b.off,λ_ _ e _=>e⟩
theorem Bd.trans(a:Bd n h w kb B σ0 σ)(b:Bd n h w kb B' σ σ'):Bd n h w kb B' σ0 σ':=⟨a.wd,lM7 a.len b.len,b.kbd,b.row,b.off,λk o e q=>b.keep k o (a.keep k o e q) q⟩
theorem Bd.ext(b:Bd n h w kb B σ0 σ)(j:C3):Bd n h w kb B σ0 (σ++j):=
 ⟨b.wd,by rw[lq7];exact lM7 b.len (lI4 _ _),(Cq.app _ _).get b.kbd,λi hi=>(Cq.app _ _).get (b.row i hi),b.off,λk o e q=>(Cq.app _ _).get (b.keep k o e q)⟩
theorem Wx(b:Bd n h w kb B σ0 σ){y:Nat}(hy:y<h){S:St}(hS:S.sto=σ){mo my:Mn D}{iy:Int}(ho:mo S=.ok (.ref kb) S)(hm:my S=.ok (.int iy) S)(hi:iy=y):Ad Aj mo my S=.ok (.ref (n+2*y+1)) S:=by
 subst hi;refine Ab ho hm ?_
 rw[Oi (ds:=Pn n h) (by rw[hS];exact b.kbd) (Int.natCast_nonneg _) (by rw[Vf];exact(F1 hy)) (by rw[Vf];have:=b.wd.1;exact lk this rfl)]
 rw[zDA,lG2]
theorem zC5(b:Bd n h w kb B σ0 σ){y x:Nat}(hy:y<h)(hx:x<w){S:St}(hS:S.sto=σ){mo my mx:Mn D}{iy ix:Int}(ho:mo S=.ok (.ref kb) S)(hm:my S=.ok (.int iy) S)(hi:iy=y)(hmx:mx S=.ok (.int ix) S)(hix:ix=x):
  Ad Aj (Ad Aj mo my) mx S=.ok (zFP (B y x)) S:=by
 subst hix;refine Ab (Wx b hy hS ho hm hi) hmx ?_
 rw[Oi (ds:=Ir (B y) w) (by rw[hS];exact b.row y hy) (Int.natCast_nonneg _) (by rw[Gw];exact(F1 hx)) (by rw[Gw];have:=b.wd.2;exact lk this rfl)]
 rw[Ls,lG2]
theorem Bd.put(b:Bd n h w kb B σ0 σ)(hy:y<h):Bd n h w kb (Gp B y x c) σ0 (σ.set (n+2*y+1) (.list ((Ir (B y) w).set x (zFP c)))):=by
 have hr:=b.row y hy;refine⟨b.wd,by rw[lJ4];exact b.len,U2 b.kbd (Ne.symm (b.off y hy)),λi hi=>?_,b.off,λk o e q=>U2 (b.keep k o e q) (Ne.symm (q y hy))⟩
 by_cases z:i=y
 ·subst z;rw[Im hr,zDY];congr 3
  funext j
  unfold Gp;by_cases q:j=x
  ·rw[lO6 q,lO6 ⟨rfl,q⟩]
  ·rw[lO5 q,lO5 λz=>q z.2]
 ·rw[U2 (b.row i hi) (by omega)];congr 3
  funext j
  unfold Gp;rw[lO5 λq=>z q.1]
theorem Ma(b:Bd n h w kb B σ0 σ){y x c:Nat}(hy:y<h)(hx:x<w){loc:Bm}{mv mo my mx:Mn D}{iy ix:Int}(hv:mv ⟨loc,σ⟩=.ok (zFP c) ⟨loc,σ⟩)(ho:mo ⟨loc,σ⟩=.ok (.ref kb) ⟨loc,σ⟩)(hm:my ⟨loc,σ⟩=.ok (.int iy) ⟨loc,σ⟩)(hi:iy=y)(hmx:mx ⟨loc,σ⟩=.ok (.int ix) ⟨loc,σ⟩)(hix:ix=x):
  J1 mv (Ad Aj mo my) mx ⟨loc,σ⟩=.ok .next ⟨loc,σ.set (n+2*y+1) (.list ((Ir (B y) w).set x (zFP c)))⟩:=by
 have hsl:(100000:Nat)<=sizeLine:=by decide
 have:=zDF (v:=zFP c) (ds:=Ir (B y) w) (k:=n+2*y+1) (i:=ix) hv (Wx b hy rfl ho hm hi) hmx (b.row y hy) ⟨by exact lM2 (cast_nn _) (Int.le_of_eq (Eq.symm hix)),by rw[Gw];exact lE8 (Int.le_of_eq hix) (F1 hx),by rw[Gw];have:=b.wd.2;exact lM7 this hsl⟩
 rw[this,hix,lG2]
noncomputable def Fo {α:Type}(f:Nat->α->Bo->Bo):Nat->List α->Bo->Bo
 |_,[],B=>B
 |i,a::r,B=>Fo f (i+1) r (f i a B)
theorem Kg{α:Type}{f:α->Bo->Bo}:∀{l:List α}{i:Nat}{B:Bo},Fo (λ_ a B=>f a B) i l B=l.foldl (λB a=>f a B) B
 |[],_,_=>rfl
 |_::l,_,_=>Kg (l:=l)
theorem Yr{α:Type}{f:Nat->α->Bo->Bo}{a:α}(dn:List α):∀(i:Nat) (B:Bo),Fo f i (dn++[a]) B=f (i+dn.length) a (Fo f i dn B):=by
 induction dn with
 |nil=>exactλ_ _=>rfl
 |cons x dn ih=>exactλi B=>(ih (i+1) _).trans (by rw[Nat.add_right_comm];rfl)
theorem Fg{α:Type}{e:α->D}{tgt:D->Bm->Option Bm}{g:C3->Prop}{body:Mn Fl}{Q:Fl->St->Prop}(A:Nat->Bm->Prop)(f:Nat->α->Bo->Bo)(hg:∀σ' B',Bd n h w kb B' σ σ'->g σ'){xs:List α}
  (hstep:∀i a,xs[i]? =some a->∀loc σ' B',A i loc->Bd n h w kb B' σ σ'->∃loc',tgt (e a) loc=some loc'/\W body ⟨loc',σ'⟩ (λfl st'=>fl=.next/\A (i+1) st'.loc/\Bd n h w kb (f i a B') σ st'.sto)){loc:Bm}(hA:A 0 loc) (b:Bd n h w kb B σ0 σ)
  (hQ:∀loc' σ',A xs.length loc'->Bd n h w kb (Fo f 0 xs B) σ σ'->Q .next ⟨loc',σ'⟩):W (By tgt g body (xs.map e)) ⟨loc,σ⟩ Q:=by
 refine E2 (λdn st'=>A dn.length st'.loc/\Bd n h w kb (Fo f 0 dn B) σ st'.sto) (λ_ _ J=>hg _ _ J.2) (λdn a rest st' he J=>?_) (λst' J=>hQ _ _ J.1 J.2) ⟨hA,b.here⟩
 obtain⟨loc',e1,W1⟩:=hstep dn.length a (by rw[he,lA3 (lN4 _),lN1];rfl) st'.loc st'.sto _ J.1 J.2
 refine⟨loc',e1,W1.mono ?_⟩
 rintro fl st2 ⟨rfl,hA2,b2⟩
 refine⟨by rw[lq7];exact hA2,?_⟩
 rw[Yr,lN2];exact b2
end
end
section
open Builtin.Str
theorem M8{a b:Nat}{ia ib:Int}{S:St}(ha:ia=a)(hb:ib=b)(h1:a<=100000)(h2:b<=100000):Cj [.int ia,.int ib] S=.ok ⟨(List.range (b - a)).map λj=>D.int ((a+j:Nat):Int),λ_=>True⟩ S:=by
 subst ha hb;refine Bg (Wj.mpr ⟨lD1.mpr ⟨Dl.mpr ⟨by exact H6 (Ac (.s (.n 0) (.n 1099511627776)) x0) [Ac (.n 0) x0] rT (cast_nn _),by exact zDH (Cc h1) rfl⟩,Dl.mpr ⟨by exact H6 (Ac (.s (.n 0) (.n 1099511627776)) x0) [Ac (.n 0) x0] rT (cast_nn _),by exact zDH (Cc h2) rfl⟩⟩,?_,rfl⟩)
 congr 1
 unfold Ez;rw[show((b:Int) - (a:Int)).toNat=b - a by omega]
 refine lE3 λj _=>?_
 congr 1;omega
section
variable {n h w kb:Nat}{B:Bo}{σ0 σ:C3}
noncomputable def zLx (c:String):Mn Fl:=(Ag (Ex (C1 Ho (Ad Aj (Ad Aj (A6 0) (A6 6)) (A6 5)) (A8 (.str (sO "+")))) (Ag (J1 (A8 (.str (sO c))) (Ad Aj (A6 0) (A6 6)) (A6 5))
 (A8 .next)) (A8 .next))
 (A8 .next))
theorem zIh(hc:D.str (sO c)=zFP cc)(b:Bd n h w kb B σ0 σ)(hy:y<h)(hx:x<w)(l0:loc 0=some (.ref kb))(l6:loc 6=some (.int (y:Int)))(l5:loc 5=some (.int (x:Int))):
  W (zLx c) ⟨loc,σ⟩ λfl st'=>fl=.next/\st'.loc=loc/\Bd n h w kb (Db (λi j=>i=y/\j=x) cc B) σ0 st'.sto:=by
 unfold zLx;refine Da (b:=[B y x] !=[43]) (B8 (zC5 b hy hx rfl (A7 l0) (A7 l6) rfl (A7 l5) rfl) rfl rfl rfl) (λz=>?_) λz=>?_
 ·have z:B y x≠43:=by simpa using z
  rw[hc];refine Ax (Ma b hy hx rfl (A7 l0) (A7 l6) rfl (A7 l5) rfl) (Aa rfl (Aa rfl ⟨rfl,rfl,?_⟩))
  have:=b.put (x:=x) (c:=cc) hy
  rw[←V5,lO6 z];exact this
 ·have z:B y x=43:=by simpa using z
  refine Aa rfl (Aa rfl ⟨rfl,rfl,?_⟩)
  rw[←V5,lO5 λq=>q z]
  exact b
theorem zNT(hc:c≠43)(h:∀y x,(P y x∨P' y x)↔Q y x):Db P' c (Db P c B)=Db Q c B:=(Sc hc).trans (Gv h)
theorem zHW{q:Qb}(hn:q.n<=q.s)(hw:q.w<=q.e)(hs:q.s<h)(he:q.e<w){st:St}{Q:D->St->Prop}(b:Bd n h w kb B σ0 st.sto)
  (hQ:∀σ',Bd n h w kb (Db (X5 q) 124 (Db (Uf q) 45 B)) st.sto σ'->Q .none ⟨st.loc,σ'⟩):W (Gf [.ref kb,.int (q.n:Int),.int (q.w:Int),.int (q.s:Int),.int (q.e:Int)]) st Q:=by
 have wd:=b.wd;let A:Bm->Prop:=λl=>l 0=some (.ref kb)/\l 1=some (.int (q.n:Int))/\l 2=some (.int (q.w:Int))/\l 3=some (.int (q.s:Int))/\l 4=some (.int (q.e:Int))
 refine Bu rfl ?_
 unfold Lv;refine Al (Wb (Aa (A5 rfl (M8 (a:=q.w+1) (b:=q.e) rfl rfl (by exact Ck (Ac (.a x0 (.n 1)) (.n 100000)) [Ac x0 x1,Ae x1 x2,Ac x2 (.n 100000)] rT hw he wd.2) (lM7 (lM6 he) wd.2))) ?_))
 refine Fg (λ_ l=>A l) (λ_ j B=>Db (λy x=>(y=q.n∨y=q.s)/\x=q.w+1+j) 45 B) (λ_ _ _=>trivial) (λi j hj l σ1 B1 hA b1=>?_) ⟨rfl,rfl,rfl,rfl,rfl⟩ b λl1 σ1 hA1 b1=>?_
 ·have hj:j<q.e - (q.w+1):=by
   have:=lD5 hj
   exact lK9.mp this
  refine⟨Be l 5 (.int ((q.w+1+j:Nat):Int)),rfl,?_⟩
  refine Al (Wb (Aa (A5 (A5 (A5 (A7 hA.2.1) (A5 (A5 (A7 hA.2.2.2.1) rfl) rfl)) rfl) rfl) ?_))
  refine Fg (α:=Nat) (xs:=[q.n,q.s]) (e:=λv=>D.int (v:Int)) (λ_ l=>A l/\l 5=some (.int ((q.w+1+j:Nat):Int))) (λ_ v B=>Db (λy x=>y=v/\x=q.w+1+j) 45 B) (λ_ _ _=>trivial) (λi v hv l2 σ2 B2 hA2 b2=>?_) ⟨hA,rfl⟩ b1 λl2 σ2 hA2 b2=>?_
  ·have hv:v<h:=by
    rcases lL5.mp (lD5 hv)with e|e
    ·exact Cd (Ae x1 x0) [Ac x2 x3,Ae x3 x0,eq1 x1 x2] rT hn hs e
    ·rw[lq0 e];exact hs
   refine⟨Be l2 6 (.int (v:Int)),rfl,(zIh (c:="-") (loc:=Be l2 6 (.int (v:Int))) rfl b2 hv (by omega) (x:=q.w+1+j) hA2.1.1 rfl hA2.2).mono ?_⟩
   rintro fl ⟨l3,σ3⟩ ⟨rfl,hl,b3⟩
   cases hl;exact⟨rfl,hA2,b3⟩
  ·have e:Fo (λ_ v B=>Db (λy x=>y=v/\x=q.w+1+j) 45 B) 0 [q.n,q.s] B1=Db (λy x=>(y=q.n∨y=q.s)/\x=q.w+1+j) 45 B1:=zNT (by decide) λy x=>⟨λz=>z.elim (λz=>⟨.inl z.1,z.2⟩) λz=>⟨.inr z.1,z.2⟩,λz=>z.1.elim (λr=>.inl ⟨r,z.2⟩) λr=>.inr ⟨r,z.2⟩⟩
   rw[e]at b2;exact Aa rfl ⟨rfl,hA2.1,b1.trans b2⟩
 ·have e:Fo (λ_ j B=>Db (λy x=>(y=q.n∨y=q.s)/\x=q.w+1+j) 45 B) 0 (List.range (q.e - (q.w+1))) B=Db (Uf q) 45 B:=by
   rw[Kg,Mz (by decide)];refine Gv λy x=>⟨λ⟨j,m,h1,h2⟩=>⟨h1,?_,?_⟩,λz=>⟨x - (q.w+1),lK9.mpr ?_,z.1,?_⟩⟩
   ·exact Ck (Ae x0 x1) [Cz x1 (.a (.a x0 (.n 1)) x2),Ac (.n 0) x2] rT h2 (lq5 _)
   ·have hq1:=lK9.mp m;omega
   ·have:=z.2;exact Mr (Ae x0 x1) [Ae x3 x2,Ac x2 (.a x1 (.a x4 (.n 1))),eq1 (.a x0 (.a x4 (.n 1))) x3] rT this.2 (Ao _ _) (Aq (this.1))
   ·have:=z.2;exact Du (λZ=>An [_,_,_] [Ae x1 (.a (.a x0 (.n 1)) x2),eq1 (.a x2 (.a x0 (.n 1))) x1] rT Z (Aq (this.1))) (λZ=>An [_,_,_] [Ae (.a (.a x0 (.n 1)) x2) x1,Ac x1 (.a x2 (.a x0 (.n 1)))] rT Z (Ao _ _))
  rw[e]at b1;refine Al (Wb (Aa (A5 (A5 (Ab (A7 hA1.2.1) rfl rfl) (A5 (A5 (A7 hA1.2.2.2.1) rfl) rfl)) (M8 (a:=q.n+1) (b:=q.s) rfl rfl (by exact Ck (Ac (.a x0 (.n 1)) (.n 100000)) [Ac x0 x1,Ae x1 x2,Ac x2 (.n 100000)] rT hn hs wd.1) (lM7 (lM6 hs) wd.1))) ?_))
  refine Fg (λ_ l=>A l) (λ_ j B=>Db (λy x=>(x=q.w∨x=q.e)/\y=q.n+1+j) 124 B) (λ_ _ _=>trivial) (λi j hj l σ2 B2 hA b2=>?_) hA1 b1 λl2 σ2 hA2 b2=>?_
  ·have hj:j<q.s - (q.n+1):=by
    have:=lD5 hj
    exact lK9.mp this
   refine⟨Be l 6 (.int ((q.n+1+j:Nat):Int)),rfl,?_⟩
   refine Al (Wb (Aa (A5 (A5 (A5 (A7 hA.2.2.1) (A5 (A5 (A7 hA.2.2.2.2) rfl) rfl)) rfl) rfl) ?_))
   refine Fg (α:=Nat) (xs:=[q.w,q.e]) (e:=λv=>D.int (v:Int)) (λ_ l=>A l/\l 6=some (.int ((q.n+1+j:Nat):Int))) (λ_ v B=>Db (λy x=>y=q.n+1+j/\x=v) 124 B) (λ_ _ _=>trivial) (λi v hv l3 σ3 B3 hA3 b3=>?_) ⟨hA,rfl⟩ b2 λl3 σ3 hA3 b3=>?_
   ·have hv:v<w:=by
     rcases lL5.mp (lD5 hv)with e|e
     ·exact Cd (Ae x1 x0) [Ac x2 x3,Ae x3 x0,eq1 x1 x2] rT hw he e
     ·rw[lq0 e];exact he
    refine⟨Be l3 5 (.int (v:Int)),rfl,(zIh (c:="|") (loc:=Be l3 5 (.int (v:Int))) rfl b3 (y:=q.n+1+j) (by omega) hv hA3.1.1 hA3.2 rfl).mono ?_⟩
    rintro fl ⟨l4,σ4⟩ ⟨rfl,hl,b4⟩
    cases hl;exact⟨rfl,hA3,b4⟩
   ·have e:Fo (λ_ v B=>Db (λy x=>y=q.n+1+j/\x=v) 124 B) 0 [q.w,q.e] B2=Db (λy x=>(x=q.w∨x=q.e)/\y=q.n+1+j) 124 B2:=zNT (by decide) λy x=>⟨λz=>z.elim (λz=>⟨.inl z.2,z.1⟩) λz=>⟨.inr z.2,z.1⟩,λz=>z.1.elim (λr=>.inl ⟨z.2,r⟩) λr=>.inr ⟨z.2,r⟩⟩
    rw[e]at b3;exact Aa rfl ⟨rfl,hA3.1,b2.trans b3⟩
  ·have e:Fo (λ_ j B=>Db (λy x=>(x=q.w∨x=q.e)/\y=q.n+1+j) 124 B) 0 (List.range (q.s - (q.n+1))) (Db (Uf q) 45 B)=Db (X5 q) 124 (Db (Uf q) 45 B):=by
    rw[Kg,Mz (by decide)];refine Gv λy x=>⟨λ⟨j,m,h1,h2⟩=>⟨h1,?_,?_⟩,λz=>⟨y - (q.n+1),lK9.mpr ?_,z.1,?_⟩⟩
    ·exact Ck (Ae x0 x1) [Cz x1 (.a (.a x0 (.n 1)) x2),Ac (.n 0) x2] rT h2 (lq5 _)
    ·have hq2:=lK9.mp m;omega
    ·have:=z.2;exact Mr (Ae x0 x1) [Ae x3 x2,Ac x2 (.a x1 (.a x4 (.n 1))),eq1 (.a x0 (.a x4 (.n 1))) x3] rT this.2 (Ao _ _) (Aq (this.1))
    ·have:=z.2;exact Du (λZ=>An [_,_,_] [Ae x1 (.a (.a x0 (.n 1)) x2),eq1 (.a x2 (.a x0 (.n 1))) x1] rT Z (Aq (this.1))) (λZ=>An [_,_,_] [Ae (.a (.a x0 (.n 1)) x2) x1,Ac x1 (.a x2 (.a x0 (.n 1)))] rT Z (Ao _ _))
   rw[e]at b2;exact Aa rfl (hQ _ (b1.trans b2))
end
end
section
open Builtin.Str
noncomputable def Rj (y x0:Nat)(ln:List Nat):Bo->Bo:=Fo (λj c B=>Gp B y (x0+j) c) 0 ln
noncomputable def Rs (q:Qb)(x:Str):Bo->Bo:=Fo (λk (ln:Str) B=>Rj (q.n+2+k) (q.w+2) (cl ln) B) 0 (Txt.split x ⟨#[10]⟩)
structure zMa (q:Qb)(x:Str)(h w:Nat):Prop where
 len:x.length<=1000
 row:q.n+2+(Txt.split x ⟨#[10]⟩).length<=h
 col:∀y,y∈Txt.split x ⟨#[10]⟩->q.w+2+y.length<=w
section
variable {n h w kb:Nat}{B:Bo}{σ0 σ:C3}
theorem Bd.lt(b:Bd n h w kb B σ0 σ)(hi:i<h):n+2*i+1<σ.length:=(lq2 (b.row i hi)).1
theorem Bd.new(b:Bd n h w kb B σ0 σ)(hk:σ.length<=k)(b':Bd n h w kb B' σ1 σ')(e:σ1[k]? =some o):σ'[k]? =some o:=b'.keep k o e λi hi z=>by have:=b.lt hi;exact An [_,_,_,_] [Ac x0 x1,eq1 x1 (.a (.a x3 (.m 2 x2)) (.n 1)),Ae (.a (.a x3 (.m 2 x2)) (.n 1)) x0] rT hk z this
theorem Vq{q:Qb}{x:Str}(ft:zMa q x h w){st:St}{Q:D->St->Prop}(b:Bd n h w kb B σ0 st.sto)
  (hQ:∀σ',Bd n h w kb (Rs q x B) st.sto σ'->Q .none ⟨st.loc,σ'⟩):W (H9 [.ref kb,.int (q.n:Int),.int (q.w:Int),.str x]) st Q:=by
 have wd:=b.wd;have hsl:(2000:Nat)<=sizeLine:=by decide
 have hlen:=ft.len;have hrow:=ft.row;refine Bu rfl ?_
 unfold Nm;refine Ax rfl (Al (Wb (Wb (Wb (Aa rfl (Ov (by exact Cp (Ac (.a x1 (.n 2)) x0) [Ac (.n 2000) x0,Ac x1 (.n 1000)] rT hsl hlen) ?_))))))
 refine Aa (Cv (lq3)) ?_
 have b1:=b.here.ext [.list ((Txt.split x ⟨#[10]⟩).map D.str)];refine Fg (λi l=>l 0=some (.ref kb)/\l 2=some (.int (q.w:Int))/\l 4=some (.int ((q.n+2+i:Nat):Int))) (λk ln B=>Rj (q.n+2+k) (q.w+2) (cl ln) B) (λσ' B' b'=>b.new (lN4 _) b' lq3) (λi ln hln l σ1 B1 hA b1=>?_) ⟨rfl,rfl,rfl⟩ b1 λl2 σ2 hA2 b2=>?_
 ·have hi:i<(Txt.split x ⟨#[10]⟩).length:=(lq2 hln).1
  have hcol:=ft.col ln (lD5 hln);refine⟨Be l 5 (.str ln),rfl,Ax (run_set (Ab (A7 hA.2.1) rfl rfl)) (Al (Wb (Aa (A5 rfl rfl) ?_)))⟩
  refine Fg (α:=Nat) (xs:=cl ln) (e:=zFP) (λj l=>l 0=some (.ref kb)/\l 2=some (.int (q.w:Int))/\l 4=some (.int ((q.n+2+i:Nat):Int))/\l 6=some (.int ((q.w+2+j:Nat):Int))) (λj c B=>Gp B (q.n+2+i) (q.w+2+j) c) (λ_ _ _=>trivial) (λj c hc l3 σ3 B3 hA3 b3=>?_) ⟨hA.1,hA.2.1,hA.2.2,rfl⟩ b1 λl3 σ3 hA3 b3=>?_
  ·have hj:j<ln.length:=by rw[←Bb];exact(lq2 hc).1
   refine⟨Be l3 7 (zFP c),rfl,Ax (Ma b3 (c:=c) (y:=q.n+2+i) (x:=q.w+2+j) (by exact Cd (Ae (.a (.a x1 (.n 2)) x2) x0) [Ac (.a (.a x1 (.n 2)) x3) x0,Ae x2 x3] rT hrow hi) (by exact Cd (Ae (.a (.a x1 (.n 2)) x2) x0) [Ac (.a (.a x1 (.n 2)) x3) x0,Ae x2 x3] rT hcol hj) rfl (A7 hA3.1) (A7 hA3.2.2.1) rfl (A7 hA3.2.2.2) rfl) ?_⟩
   refine Ax (run_set (Ab (A7 hA3.2.2.2) rfl rfl)) (Aa rfl ⟨rfl,⟨hA3.1,hA3.2.1,hA3.2.2.1,?_⟩,b3.put (by exact Cd (Ae (.a (.a x1 (.n 2)) x2) x0) [Ac (.a (.a x1 (.n 2)) x3) x0,Ae x2 x3] rT hrow hi)⟩)
   show some (D.int (((q.w+2+j:Nat):Int)+1))=_
   congr 2
  ·refine Ax (run_set (Ab (A7 hA3.2.2.1) rfl rfl)) (Aa rfl ⟨rfl,⟨hA3.1,hA3.2.1,?_⟩,b1.trans b3⟩)
   show some (D.int (((q.n+2+i:Nat):Int)+1))=_
   congr 2
 ·exact Aa rfl (hQ _ (b1.trans b2))
end
end
section
open Builtin.Str
theorem Ly(hk:S.sto[k]? =some (.list ds))(h0:0<=i)(h1:i<2 ^ 62)(h2:ds.length*i.toNat<=16777216):Ey (.ref k) (.int i) S=.ok (.ref S.sto.length) ⟨S.loc,S.sto++[.list (N2 i ds)]⟩:=by
 have hi:Gs i=true:=Ea.mpr ⟨by exact H6 (Ac (.s (.n 0) (.n 9223372036854775808)) x0) [Ac (.n 0) x0] rT h0,Int.lt_of_lt_of_le h1 (by decide)⟩
 exact(Bf hk).trans (C8 ⟨hi,h2⟩)
theorem J8{w:Nat}{d:D}:N2 (w:Int) [d]=List.replicate w d:=by
 unfold N2;rw[lG2]
 induction w with
 |zero=>rfl
 |succ w ih=>rw[List.replicate_succ,List.flatten_cons,ih];rfl
theorem zBr{w:Nat}:N2 (w:Int) [D.str (sO " ")]=Ir (λ_=>32) w:=by
 rw[J8];refine lH9 (by rw[lC4,Gw]) λj h1 h2=>?_
 rw[List.getElem_replicate,Ls];rfl
noncomputable def Qw (w:Nat):Nat->C3
 |0=>[]
 |i+1=>Qw w i++[.list [D.str (sO " ")],.list (Ir (λ_=>32) w)]
theorem G1:∀i,(Qw w i).length=2*i
 |0=>rfl
 |i+1=>by show(Qw w i++_).length=_;rw[lq7,G1 i];rfl
theorem zFk:∀{i j:Nat},j<i->(Qw w i)[2*j+1]? =some (.list (Ir (λ_=>32) w))
 |0,j,h=>absurd h (lJ9 _)
 |i+1,j,h=>by
  show(Qw w i++_)[2*j+1]? =_
  by_cases z:j<i
  ·rw[lA6 (by rw[G1];exact Cp (Ae (.a (.m 2 x0) (.n 1)) (.m 2 x1)) [Zx 2 x0 x1] rT z)];exact zFk z
  ·obtain rfl:j=i:=by exact Du (λZ=>An [_,_] [Ae x0 x1,Ac x1 x0] rT Z (lN7.mp z)) (λZ=>An [_,_] [Ae x1 x0,Ae x0 (.a x1 (.n 1))] rT Z h)
   rw[lA3 (by rw[G1];exact lI4 _ _),G1,show 2*j+1 - 2*j=1 by exact Du (λZ=>An [_,_] [Ae x0 (.n 1),Ac (.a (.m 2 x1) (.n 1)) (.a x0 (.m 2 x1))] rT Z (Ao _ _)) (λZ=>An [_,_] [Ae (.n 1) x0,eq1 (.a x0 (.m 2 x1)) (.a (.m 2 x1) (.n 1))] rT Z (Aq (lI4 _ _)))];rfl
section
variable {v w:Nat}{mw:Mn D}{σ:C3}{A:Bm->Prop}
theorem Nv(hw:w<=100000)(hmw:∀(l:Bm) (j:C3),A l->mw ⟨l,σ++j⟩=.ok (.int (w:Int)) ⟨l,σ++j⟩)(hA:∀l d,A l->A (Be l v d)):∀(m i:Nat) (acc:List D) (ds:List D) (l:Bm),ds.length=m->A l->∃l',
  Dm (As v) (λ_=>True) (A8 true) (Ad Ey (Cs (A9 (A8 (.str (sO " "))) Ai)) mw) ds acc ⟨l,σ++Qw w i⟩=.ok (acc++(List.range' i m).map λi=>D.ref (σ.length+2*i+1)) ⟨l',σ++Qw w (i+m)⟩
 |0,i,acc,ds,l,hd,_=>by
  rw[lA1 hd,Mc,lO6 trivial];exact⟨l,by simp⟩
 |m+1,i,acc,ds,l,hd,hl=>by
  cases ds with
  |nil=>cases hd
  |cons d ds=>
   have e1:Ad Ey (Cs (A9 (A8 (.str (sO " "))) Ai)) mw ⟨Be l v d,σ++Qw w i⟩=.ok (.ref (σ.length+2*i+1)) ⟨Be l v d,σ++Qw w (i+1)⟩:=by
    refine Ab (st1:=⟨Be l v d,σ++(Qw w i++[.list [D.str (sO " ")]])⟩) (a:=.ref (σ++Qw w i).length) (by rw[←lq8];rfl) (hmw _ _ (hA _ _ hl)) ?_
    rw[Ly (ds:=[D.str (sO " ")]) (by show(σ++(Qw w i++[PO.list [D.str (sO " ")]]))[(σ++Qw w i).length]? =_;rw[←lq8];exact lq3) (by exact(cast_nn _)) (by exact zDH (Cc hw) rfl) (by show 1*_≤_;exact X7 (Ac (.m 1 x0) (.n 16777216)) [Ac x0 (.n 100000)] rT hw),zBr]
    show Re.ok (D.ref (σ++(Qw w i++[PO.list [D.str (sO " ")]])).length) (St.mk (Be l v d) (σ++(Qw w i++[PO.list [D.str (sO " ")]])++[PO.list (Ir (λ_=>32) w)]))=_
    rw[lq7,lq7,G1,lq8,lq8];rfl
   obtain⟨l',e2⟩:=Nv hw hmw hA m (i+1) (acc++[.ref (σ.length+2*i+1)]) ds (Be l v d) (by simpa using hd) (hA _ _ hl)
   refine⟨l',?_⟩
   rw[Lo,lO6 trivial];refine Eq.trans (show _=Af (Ad Ey (Cs (A9 (A8 (.str (sO " "))) Ai)) mw) (λx=>Dm _ _ _ _ ds (acc++[x])) ⟨Be l v d,σ++Qw w i⟩from rfl) (A5 e1 (e2.trans ?_))
   rw[List.range'_succ,lL4,lq8,show i+1+m=i+(m+1)by exact Du (λZ=>An [_,_] [Ae (.a (.a x1 (.n 1)) x0) (.a x1 (.a x0 (.n 1)))] rT Z) (λZ=>An [_,_] [Ae (.a x1 (.a x0 (.n 1))) (.a (.a x1 (.n 1)) x0)] rT Z)];rfl
theorem zB6(hd:ds.length=h)(hh:h<=100000)(hw:w<=100000)(hmw:∀(l:Bm) (j:C3),A l->mw ⟨l,σ++j⟩=.ok (.int (w:Int)) ⟨l,σ++j⟩)(hA:∀l d,A l->A (Be l v d))(hl:A (F6 cls loc)):
  C7 cls (As v) (A8 true) (Ad Ey (Cs (A9 (A8 (.str (sO " "))) Ai)) mw) ⟨ds,λ_=>True⟩ ⟨loc,σ⟩=.ok (.ref (σ.length+2*h)) ⟨loc,σ++Qw w h++[.list (Pn σ.length h)]⟩:=by
 have hsl:(100000:Nat)<=sizeLine:=by decide
 obtain⟨l',e⟩:=Nv hw hmw hA h 0 [] ds (F6 cls loc) hd hl
 rw[show σ++Qw w 0=σ from lJ0 σ]at e
 unfold C7;rw[lO6 (by show ds.length<=_;exact Ck (Ac x0 x1) [eq1 x0 x2,Ac x2 (.n 100000),Ac (.n 100000) x1] rT hd hh hsl)]
 dsimp only;rw[e];dsimp only;rw[lq7,G1,lN2,List.nil_append,←List.range_eq_range'];rfl
theorem zEe(hh:h<=100000)(hw:w<=100000):Bd σ.length h w (σ.length+2*h) (λ_ _=>32) σ (σ++Qw w h++[.list (Pn σ.length h)]):=by
 refine⟨⟨hh,hw⟩,by simp,?_,λi hi=>?_,λi hi=>by exactλZ=>An [_,_,_] [eq1 (.a x2 (.m 2 x0)) (.a (.a x2 (.m 2 x1)) (.n 1)),Zx 2 x1 x0] rT Z hi,λk o e _=>?_⟩
 ·rw[lA3 (by rw[lq7,G1];exact lN4 _),lq7,G1,lN1];rfl
 ·rw[lq8,lA3 (by exact Cp (Ac x1 (.a (.a x1 (.m 2 x0)) (.n 1))) [Qe 2 (.n 0) x0] rT (lq5 _)),lA6 (by rw[G1];exact Cd (Ae x1 (.m 2 x0)) [Zx 2 x2 x0,eq1 (.a x1 x3) (.a (.a x3 (.m 2 x2)) (.n 1))] rT hi (Aq (Cp (Ac x1 (.a (.a x1 (.m 2 x0)) (.n 1))) [Qe 2 (.n 0) x0] rT (lq5 _)))),show σ.length+2*i+1 - σ.length=2*i+1 by exact Du (λZ=>An [_,_,_] [Ae x1 (.a (.m 2 x0) (.n 1)),Ac (.a (.a x2 (.m 2 x0)) (.n 1)) (.a x1 x2)] rT Z (Ao _ _)) (λZ=>An [_,_,_] [Ae (.a (.m 2 x0) (.n 1)) x1,eq1 (.a x1 x2) (.a (.a x2 (.m 2 x0)) (.n 1))] rT Z (Aq (Cp (Ac x1 (.a (.a x1 (.m 2 x0)) (.n 1))) [Qe 2 (.n 0) x0] rT (lq5 _))))]
  exact zFk hi
 ·rw[lq8];exact(Cq.app _ _).get e
end
noncomputable def Di (h w:Nat)(B:Bo):List (List Nat):=(List.range h).map λi=>(List.range w).map (B i)
theorem zEv:Jv (Ir f w)=some ((List.range w).map λx=>⟨#[f x]⟩):=by
 have:Ir f w=((List.range w).map λx=>(⟨#[f x]⟩:Str)).map D.str:=by unfold Ir;rw[lM3];rfl
 rw[this];exact H1 _
theorem Uw:cl (Str.join ⟨#[]⟩ ((List.range w).map λx=>⟨#[f x]⟩))=(List.range w).map f:=by
 rw[Q6,lM3];generalize List.range w=l
 induction l with
 |nil=>rfl
 |cons a l ih=>rw[lL4,List.flatten_cons,ih];rfl
theorem zG5(b:Bd n h w kb B σ0 σ)(hz:h*w+h<=16777216)(hl:loc ib=some (.ref kb))(hQ:∀x j,cl x=Bz 10 (Di h w B)->Q (.str x) ⟨loc,σ++j⟩):
  W (Af (A8 (.str (sO "\n"))) (strM λx=>Af (A9 (Af (Af (A6 ib) Bq) (C7 [v] (As v) (A8 true) (Af (A8 (.str (Str.ofString ""))) (strM λx=>Af (A9 (A6 v) Ai) (Gm x))))) Ai) (Gm x))) ⟨loc,σ⟩ Q:=by
 have wd:=b.wd;have hw:w<=16777216:=lk wd.2 rfl
 have:=hQ (Str.join ⟨#[10]⟩ ((List.range h).map λi=>Str.join ⟨#[]⟩ ((List.range w).map λj=>⟨#[B i j]⟩))) [.list ((List.range h).map λi=>D.str (Str.join ⟨#[]⟩ ((List.range w).map λj=>⟨#[B i j]⟩)))] (by
  rw[Iw,lM3];exact lO2 (Bz 10) (lE3 λi _=>Uw))
 refine Aa (A5 rfl (A5 (A5 (A5 (A5 (A7 hl) (Cv b.kbd)) (Gl (λi=>D.str (Str.join ⟨#[]⟩ ((List.range w).map λj=>⟨#[B i j]⟩))) (λ_=>True) (by rw[lG4];exact wd.1) b.kbd trivial (λ_ _ h=>h) λi mi l _=>?_)) rfl) (Ow (xs:=(List.range h).map λi=>Str.join ⟨#[]⟩ ((List.range w).map λj=>⟨#[B i j]⟩)) lq3 (by rw[←H1,lM3];rfl) (Hv (B:=w) (λy m=>?_) ?_)))) this
 ·refine A5 rfl (A5 (A5 (A7 (lO6 rfl)) rfl) (Ow (b.row i (lK9.mp mi)) zEv (Hv (B:=1) (λy m=>?_) ?_)))
  ·obtain⟨j,_,rfl⟩:=lM4.mp m;exact lN4 _
  ·rw[lq6,lG4];show w*1+w*0<=_
   rw[Nat.mul_one,Nat.mul_zero];exact hw
 ·obtain⟨i,_,rfl⟩:=lM4.mp m;rw[←Bb,Uw,lq6,lG4];exact lN4 _
 ·rw[lq6,lG4];show h*w+h*1<=_
  rw[Nat.mul_one];exact hz
end
section
open Builtin.Str
noncomputable def rm (w:Bool)(x:Str):Int:=3+bif w then Zh x else zKx x
noncomputable def V0 (w:Bool)(c:Cn):Sp:=((lo w c:Int),(hi w c:Int),rm w c.x)
theorem zI9(h:Ce a=Ce b):a=b:=by
 obtain⟨a1,a2,a3,a4,a5⟩:=a;obtain⟨b1,b2,b3,b4,b5⟩:=b;unfold Ce at h;injection h with e1
 injection e1 with q1 e1
 injection e1 with q2 e1
 injection e1 with q3 e1
 injection e1 with q4 e1
 injection e1 with q5 _
 injection q1 with q1
 injection q2 with q2
 injection q3 with q3
 injection q4 with q4
 injection q5 with q5
 simp only at q1 q2 q3 q4 q5
 obtain rfl:a1=b1:=by exact Nh (Kl (λZ=>Az [_,_] [Ae x0 x1,Cz x0 x1] rT Z q1) (λZ=>Az [_,_] [Ae x1 x0,eq1 x0 x1] rT Z q1))
 obtain rfl:a2=b2:=by exact Nh (Kl (λZ=>Az [_,_] [Ae x0 x1,Cz x0 x1] rT Z q2) (λZ=>Az [_,_] [Ae x1 x0,eq1 x0 x1] rT Z q2))
 obtain rfl:a3=b3:=by exact Nh (Kl (λZ=>Az [_,_,_] [Ae x0 x1,Cz (.s x0 x2) (.s x1 x2)] rT Z q3) (λZ=>Az [_,_,_] [Ae x1 x0,eq1 (.s x0 x2) (.s x1 x2)] rT Z q3))
 obtain rfl:a4=b4:=by exact Nh (Kl (λZ=>Az [_,_,_] [Ae x0 x1,Cz (.s x0 x2) (.s x1 x2)] rT Z q4) (λZ=>Az [_,_,_] [Ae x1 x0,eq1 (.s x0 x2) (.s x1 x2)] rT Z q4))
 rw[q5]
theorem Zk{w:Bool}{N:Nat}{me ix:Mn D}{R C:Int}(hN:N<=60){cs:List Cn}(hcl:cs.length<=400)(hok:Ti (cs.map (V0 w))){kt:Nat}{st:St}{Q:Fl->St->Prop}(hk:st.sto[kt]? =some (.list (cs.map Ce)))(h0:st.loc 0=some (.tup [.int R,.int C,.ref kt]))
  (hme:∀c l σ,c∈cs->W me ⟨Be l 2 (Ce c),σ⟩ λx s=>x=zNL (V0 w c)/\∃j,s=⟨Be l 2 (Ce c),σ++j⟩) (hix:∀l σ,l 0=some (.tup [.int R,.int C,.ref kt])->ix ⟨l,σ⟩=.ok (.int N) ⟨l,σ⟩)
  (hQ:∀F l j,Bp (cs.map (V0 w)) F->F.length=N+1->Q (.ret (.ref (st.sto++j).length)) ⟨l,st.sto++j++[.list (F.map D.int)]⟩):
  W (Ag (Af (Af (Af (Ad Aj (A6 0) (A8 (.int 2))) Bq) (C7 [2] (As 2) (A8 true) me)) (Ah 1)) (Ag (Ca (Af (A9 ix (A9 (A6 1) Ai)) M6)) (A8 .next))) st Q:=by
 have hsl:(1000:Nat)<=sizeLine:=by decide
 refine Al (Wb (Wb (Aa (A5 (Ab (A7 h0) rfl rfl) (Cv hk)) ?_)))
 refine U1 (λ_=>true) (λd x _=>∀c,d=Ce c->x=zNL (V0 w c)) (λ_=>True) (by show(cs.map Ce).length<=_;rw[lq6];exact zOS hcl hsl rfl) (λ_ _ _ _ _ h=>h) (λσ' hx=>hx.get hk) trivial (λd hd l σ' _ hx=>?_) λxs σ' hx r=>?_
 ·obtain⟨c,mc,rfl⟩:=lM4.mp hd;refine⟨Be l 2 (Ce c),rfl,trivial,Aa rfl ⟨rfl,rfl,.refl _,λ_=>(hme c l σ' mc).mono ?_⟩⟩
  rintro x _ ⟨rfl,j,rfl⟩
  exact⟨rfl,.app _ _,λc' e=>by rw[zI9 e]⟩
 ·rw[Le]at r;obtain⟨j,rfl⟩:=hx;have e:=Vk (f:=Ce) (g:=λc=>zNL (V0 w c)) r
  refine Aa rfl (Al (Wb (Wb (Aa (A5 (hix _ _ h0) rfl) (zIU (n:=N) (sp:=cs.map (V0 w)) (by exact lk hN rfl) (by rw[e,lM3];exact lq3) hok λF hF hl=>Aa rfl ?_)))))
  have:=hQ F (Be st.loc 1 (.ref (st.sto++j).length)) (j++[.list xs]) hF hl
  rw[←lq8]at this;exact this
theorem zFR{R:Int}{C:Nat}(hC:C<=60){cs:List Cn}(hcl:cs.length<=400)(hok:Ti (cs.map (V0 true)))(tx:∀c,c∈cs->c.x.length<=1000){kt:Nat}{st:St}{Q:D->St->Prop}(hk:st.sto[kt]? =some (.list (cs.map Ce)))
  (hQ:∀F j,Bp (cs.map (V0 true)) F->F.length=C+1->Q (.ref (st.sto++j).length) ⟨st.loc,st.sto++j++[.list (F.map D.int)]⟩):W (Lr [.tup [.int R,.int (C:Int),.ref kt]]) st Q:=by
 refine Bu rfl (Zk (w:=true) (R:=R) (C:=C) hC hcl hok hk rfl (λc l σ mc=>?_) (λl σ h=>Ab (A7 h) rfl rfl) λF l j hF hl=>hQ F j hF hl)
 refine Wb (Wb (Aa rfl (Wb (Wb (Aa rfl (Wb (Wb (Mg (Aa rfl ?_)))))))))
 refine Wb (Aa rfl (zBq (tx c mc) λj=>Sd.mpr (Aa rfl ?_)))
 refine Aa rfl (Aa rfl (Aa rfl ⟨?_,j,rfl⟩))
 show D.tup [.int (c.l:Int),.int ((c.l:Int)+((c.r:Int) - c.l)),.int (3+Zh c.x)]=D.tup [.int (c.l:Int),.int (c.r:Int),.int (3+Zh c.x)]
 rw[show(c.l:Int)+((c.r:Int) - c.l)=c.r by exact Kl (λZ=>Az [_,_] [Ae (.a x0 (.s x1 x0)) x1] rT Z) (λZ=>Az [_,_] [Ae x1 (.a x0 (.s x1 x0))] rT Z)]
theorem zJ3{R:Nat}{C:Int}(hR:R<=60){cs:List Cn}(hcl:cs.length<=400)(hok:Ti (cs.map (V0 false)))(tx:∀c,c∈cs->c.x.length<=1000){kt:Nat}{st:St}{Q:D->St->Prop}(hk:st.sto[kt]? =some (.list (cs.map Ce)))
  (hQ:∀F j,Bp (cs.map (V0 false)) F->F.length=R+1->Q (.ref (st.sto++j).length) ⟨st.loc,st.sto++j++[.list (F.map D.int)]⟩):W (T4 [.tup [.int (R:Int),.int C,.ref kt]]) st Q:=by
 refine Bu rfl (Zk (w:=false) (R:=R) (C:=C) hR hcl hok hk rfl (λc l σ mc=>?_) (λl σ h=>Ab (A7 h) rfl rfl) λF l j hF hl=>hQ F j hF hl)
 have hsl:(2000:Nat)<=sizeLine:=by decide
 have htx:=tx c mc;have hss:=O3 (x:=c.x);refine Wb (Wb (Aa rfl (Wb (Wb (Aa rfl (Wb (Wb (Mg (Aa rfl ?_)))))))))
 refine Wb (Wb (Wb (Aa rfl (Ov (x:=c.x) (by exact Cp (Ac (.a x1 (.n 2)) x0) [Ac (.n 2000) x0,Ac x1 (.n 1000)] rT hsl htx) ?_))))
 refine Aa rfl (Aa (E6 lq3 (by rw[lq6];exact Cp (Ae x0 (.n 4611686018427387904)) [Ac x1 (.n 1000),Ac x0 (.a x1 (.n 2))] rT htx hss)) (Sd.mpr (Aa rfl ?_)))
 refine Aa rfl (Aa rfl (Aa rfl ⟨?_,_,rfl⟩))
 show D.tup [.int (c.t:Int),.int ((c.t:Int)+((c.b:Int) - c.t)),.int (2+(((Txt.split c.x ⟨#[10]⟩).map D.str).length:Int))]=D.tup [.int (c.t:Int),.int (c.b:Int),.int (3+zKx c.x)]
 have:=I5 (x:=c.x)
 rw[show(c.t:Int)+((c.b:Int) - c.t)=c.b by exact Kl (λZ=>Az [_,_] [Ae (.a x0 (.s x1 x0)) x1] rT Z) (λZ=>Az [_,_] [Ae x1 (.a x0 (.s x1 x0))] rT Z),lq6]
 unfold zKx;rw[show(2:Int)+((Txt.split c.x ⟨#[10]⟩).length:Int)=3+Txt.count c.x ⟨#[10]⟩by exact Kl (λZ=>Az [_,_] [Ae (.a (.n 2) x0) (.a (.n 3) x1),Cz x0 (.a x1 (.n 1))] rT Z this) (λZ=>Az [_,_] [Ae (.a (.n 3) x1) (.a (.n 2) x0),eq1 x0 (.a x1 (.n 1))] rT Z this)]
end
section
open Builtin.Str
noncomputable def D3 (Fy Fx:List Int)(c:Cn):Qb:=⟨(Fy.getD c.t 0).toNat,(Fx.getD c.l 0).toNat,(Fy.getD c.b 0).toNat,(Fx.getD c.r 0).toNat⟩
structure J5 (cs:List Cn)(R C:Nat)(Fy Fx:List Int):Prop where
 row:∀c,c∈cs->c.t<c.b/\c.b<=R
 col:∀c,c∈cs->c.l<c.r/\c.r<=C
 tx:∀c,c∈cs->c.x.length<=201
 ly:Bp (cs.map (V0 false)) Fy
 lx:Bp (cs.map (V0 true)) Fx
 ny:Fy.length=R+1
 nx:Fx.length=C+1
 small:R<=20/\C<=20
theorem Nd{w:Bool}{cs:List Cn}(h:∀c,c∈cs->lo w c<hi w c):Ti (cs.map (V0 w)):=λs m=>by
 obtain⟨c,mc,rfl⟩:=lM4.mp m;have:=h c mc
 show(0:Int)<=(lo w c:Int)/\(lo w c:Int)<(hi w c:Int)
 exact⟨(cast_nn _),(F1 this)⟩
theorem zEB(m:y∈Txt.split x ⟨#[10]⟩):(y.length:Int)<=Zh x:=by
 unfold Zh;have gen:∀(l:List Int) (p:Int),p<=l.foldl max p/\∀v,v∈l->v<=l.foldl max p:=by
  intro l
  induction l with
  |nil=>intro p;exact⟨lN3 _,λ_ m=>nomatch m⟩
  |cons a l ih=>
   intro p;obtain⟨h1,h2⟩:=ih (max p a);rw[lJ2];refine⟨by lia,λv m=>?_⟩
   rcases lL5.mp m with rfl|m
   ·lia
   ·exact h2 v m
 exact(gen _ 0).2 _ (lM4.mpr ⟨y,m,rfl⟩)
theorem zLC:Zh x<=x.length:=by
 unfold Zh;have gen:∀(l:List Int) (p M:Int),p<=M->(∀v,v∈l->v<=M)->l.foldl max p<=M:=by
  intro l
  induction l with
  |nil=>intro p M h _;exact h
  |cons a l ih=>
   intro p M h h2;exact ih _ _ (by have hq1:=h2 a lq1;lia) λv m=>h2 v (lq4 _ m)
 refine gen _ _ _ (by exact(cast_nn _)) λv m=>?_
 obtain⟨y,my,rfl⟩:=lM4.mp m;have:=Pu y my
 exact(Cc this)
theorem Px(c:Nat):∀l,(Cu c l).length<=l.length+1
 |[]=>lN4 _
 |x::r=>by
  have ih:=Px c r;rw[M1];by_cases h:x=c
  ·rw[lO6 h,lI0,lI0];exact Cp (Ac (.a x0 (.n 1)) (.a (.a x1 (.n 1)) (.n 1))) [Ac x0 (.a x1 (.n 1))] rT ih
  ·rw[lO5 h]
   cases e:Cu c r with
   |nil=>exact absurd e (F7 c r)
   |cons a s=>rw[e,lI0]at ih;dsimp only;rw[lI0,lI0];exact Nat.le_add_right_of_le ih
theorem Wf:(Txt.split x ⟨#[10]⟩).length<=x.length+1:=by
 have:=Px 10 (cl x)
 rw[←Gu,lq6,Bb]at this;exact this
section
variable {cs:List Cn}{R C:Nat}{Fy Fx:List Int}
theorem Em(L:Bp sp F)(h:k<F.length):F.getD k 0=((F.getD k 0).toNat:Int):=by
 have:=L.mono (i:=0) (j:=k) (lq5 _) h
 rw[L.at0]at this;exact Kl (λZ=>Az [_,_] [Ae x0 x1,eq1 x1 x0] rT Z (D5 (Vt (Ac (.n 0) x0) [Ac (.a (.n 0) (.m 2 (.s x1 (.n 0)))) x0,Qe 2 (.n 0) x1] rT this (cast_nn _)))) (λZ=>Az [_,_] [Ae x1 x0,Ac x0 x1] rT Z (Hy _))
theorem Ng(L:Bp sp F)(h:i<=j)(h2:j<F.length):(F.getD i 0).toNat+2*(j - i)<=(F.getD j 0).toNat:=by
 have h1:=L.mono h h2;have h3:=Em L h2;have h4:=Em L (k:=i) (lF3 h h2);exact G9 (Zd λZ=>Az [(↑(F.getD j 0).toNat),(↑(F.getD i 0).toNat),(↑(j - i)),(↑i),(↑j),(F.getD i 0),(F.getD j 0)] [Ae x0 (.a x1 (.m 2 x2)),Ac (.a x5 (.m 2 (.s x4 x3))) x6,eq1 x6 x0,Cz x5 x1,zNc 2 (.a x2 x3) x4] rT Z h1 h3 h4 (O1 (Zd λY=>Az [(↑i),(↑j)] [Ae x1 x0,Ac x0 x1] rT Y (Cc h))))
theorem J5.box(g:J5 cs R C Fy Fx)(m:c∈cs):((D3 Fy Fx c).n<(D3 Fy Fx c).s/\(D3 Fy Fx c).w<(D3 Fy Fx c).e)/\(D3 Fy Fx c).s<=(Fy.getD R 0).toNat/\(D3 Fy Fx c).e<=(Fx.getD C 0).toNat:=by
 have h1:=g.row c m;have h2:=g.col c m;have n1:=g.ny;have n2:=g.nx;have a1:=Ng g.ly (i:=c.t) (j:=c.b) (lM6 h1.1) (by exact Ck (Ae x0 x1) [Ac x0 x2,Cz x1 (.a x2 (.n 1))] rT h1.2 n1);have a2:=Ng g.ly (i:=c.b) (j:=R) (h1.2) (by exact Cp (Ae x0 x1) [Cz x1 (.a x0 (.n 1))] rT n1);have a3:=Ng g.lx (i:=c.l) (j:=c.r) (lM6 h2.1) (by exact Ck (Ae x0 x1) [Ac x0 x2,Cz x1 (.a x2 (.n 1))] rT h2.2 n2);have a4:=Ng g.lx (i:=c.r) (j:=C) (h2.2) (by exact Cp (Ae x0 x1) [Cz x1 (.a x0 (.n 1))] rT n2);show((Fy.getD c.t 0).toNat<(Fy.getD c.b 0).toNat/\(Fx.getD c.l 0).toNat<(Fx.getD c.r 0).toNat)/\(Fy.getD c.b 0).toNat<=_/\(Fx.getD c.r 0).toNat<=_
 exact⟨⟨Mr (Ae x0 x1) [Zx 2 x2 x3,Ac (.a x0 (.m 2 x4)) x1,Qe 2 x3 (.a x4 x2)] rT h1.1 a1 (Ao _ _),Mr (Ae x0 x1) [Zx 2 x2 x3,Ac (.a x0 (.m 2 x4)) x1,Qe 2 x3 (.a x4 x2)] rT h2.1 a3 (Ao _ _)⟩,⟨Ck (Ac x0 x1) [Ac (.a x0 (.m 2 x2)) x1,Qe 2 (.n 0) x2] rT a2 (lq5 _),Ck (Ac x0 x1) [Ac (.a x0 (.m 2 x2)) x1,Qe 2 (.n 0) x2] rT a4 (lq5 _)⟩⟩
theorem J5.fits(g:J5 cs R C Fy Fx)(m:c∈cs):zMa (D3 Fy Fx c) c.x ((Fy.getD R 0).toNat+1) ((Fx.getD C 0).toNat+1):=by
 have h1:=g.row c m;have h2:=g.col c m;have n1:=g.ny;have n2:=g.nx;have hb:=(g.box m).2;have ht:=g.tx c m;have r1:Fy.getD c.t 0+(3+zKx c.x)<=Fy.getD c.b 0:=g.ly.room (s:=V0 false c) (k:=c.b) (lM4.mpr ⟨c,m,rfl⟩) rfl (by exact Cp (Ac (.n 1) x0) [Ae x1 x0,Ac (.n 0) x1] rT h1.1 (lq5 _)) (by exact Ck (Ae x0 x1) [Ac x0 x2,Cz x1 (.a x2 (.n 1))] rT h1.2 n1)
 have r2:Fx.getD c.l 0+(3+Zh c.x)<=Fx.getD c.r 0:=g.lx.room (s:=V0 true c) (k:=c.r) (lM4.mpr ⟨c,m,rfl⟩) rfl (by exact Cp (Ac (.n 1) x0) [Ae x1 x0,Ac (.n 0) x1] rT h2.1 (lq5 _)) (by exact Ck (Ae x0 x1) [Ac x0 x2,Cz x1 (.a x2 (.n 1))] rT h2.2 n2)
 have y1:=Em g.ly (k:=c.t) (by exact Cd (Ae x0 x1) [Ae x0 x2,Ac x2 x3,Cz x1 (.a x3 (.n 1))] rT h1.1 h1.2 n1);have y2:=Em g.ly (k:=c.b) (by exact Ck (Ae x0 x1) [Ac x0 x2,Cz x1 (.a x2 (.n 1))] rT h1.2 n1);have x1:=Em g.lx (k:=c.l) (by exact Cd (Ae x0 x1) [Ae x0 x2,Ac x2 x3,Cz x1 (.a x3 (.n 1))] rT h2.1 h2.2 n2);have x2:=Em g.lx (k:=c.r) (by lia);have sl:=I5 (x:=c.x);have e1:(D3 Fy Fx c).s=(Fy.getD c.b 0).toNat:=rfl
 have e2:(D3 Fy Fx c).n=(Fy.getD c.t 0).toNat:=rfl
 have e3:(D3 Fy Fx c).e=(Fx.getD c.r 0).toNat:=rfl
 have e4:(D3 Fy Fx c).w=(Fx.getD c.l 0).toNat:=rfl
 unfold zKx at r1;refine⟨by lia,by lia,λy my=>?_⟩
 have hq1:=zEB my;lia
theorem J5.size(g:J5 cs R C Fy Fx):(Fy.getD R 0).toNat<=4080/\(Fx.getD C 0).toNat<=4080:=by
 have n1:=g.ny;have n2:=g.nx;have hs:=g.small;have b1:=g.ly.bound (Nd λc m=>(g.row c m).1) (M:=204) (by decide) (λs m=>by
  obtain⟨c,mc,rfl⟩:=lM4.mp m;have:=g.tx c mc
  have h2:=Wf (x:=c.x);have h3:=I5 (x:=c.x);show 3+Txt.count c.x ⟨#[10]⟩<=204
  exact zIX (Ac (.a (.n 3) x0) (.n 204)) [Cz x1 (.a x0 (.n 1)),Ac x2 (.n 201),Ac x1 (.a x2 (.n 1))] rT h3 (Cc this) (Cc h2)) R R (lN4 _) (by exact Cp (Ae x1 x0) [Cz x0 (.a x1 (.n 1))] rT n1)
 have b2:=g.lx.bound (Nd λc m=>(g.col c m).1) (M:=204) (by decide) (λs m=>by
  obtain⟨c,mc,rfl⟩:=lM4.mp m;have hq1:=g.tx c mc;have hq2:=zLC (x:=c.x);show 3+Zh c.x<=204
  exact Vt (Ac (.a (.n 3) x0) (.n 204)) [Ac x0 x1,Ac x1 (.n 201)] rT hq2 (Cc hq1)) C C (lN4 _) (by exact Cp (Ae x1 x0) [Cz x0 (.a x1 (.n 1))] rT n2)
 lia
end
end
section
open Builtin.Str
noncomputable def qD (q:Qb):D:=.tup [.int (q.n:Int),.int (q.w:Int),.int (q.s:Int),.int (q.e:Int)]
theorem zGq:Gp (Gp (Gp (Gp B q.n q.w 43) q.n q.e 43) q.s q.w 43) q.s q.e 43=Hu (zFr q) 43 B:=by
 have e:Gp B q.n q.w 43=Gp (Hu (λ_ _=>False) 43 B) q.n q.w 43:=by rw[zAH]
 rw[e,Ke,Ke,Ke,Ke];refine Lb λy x=>?_
 unfold zFr;constructor
 ·rintro((((h|h)|h)|h)|h)
  ·exact h.elim
  ·exact⟨.inl h.1,.inl h.2⟩
  ·exact⟨.inl h.1,.inr h.2⟩
  ·exact⟨.inr h.1,.inl h.2⟩
  ·exact⟨.inr h.1,.inr h.2⟩
 ·rintro⟨h1|h1,h2|h2⟩
  ·exact .inl (.inl (.inl (.inr ⟨h1,h2⟩)))
  ·exact .inl (.inl (.inr ⟨h1,h2⟩))
  ·exact .inl (.inr ⟨h1,h2⟩)
  ·exact .inr ⟨h1,h2⟩
noncomputable def Iv (cs:List Cn)(q:Cn->Qb)(B:Bo):Bo:=cs.foldl (λB c=>Rs (q c) c.x B) B
noncomputable def Jk (cs:List Cn)(q:Cn->Qb):Bo:=
 Iv cs q ((cs.map q).foldl (λB q=>Db (X5 q) 124 (Db (Uf q) 45 B)) ((cs.map q).foldl (λB q=>Hu (zFr q) 43 B) λ_ _=>32))
section
variable {cs:List Cn}{R C:Nat}{Fy Fx:List Int}
theorem T3{sp:List Sp}{F:List Int}{k:Nat}{S:St}{i:Int}{x:Nat}(L:Bp sp F)(hk:S.sto[k]? =some (.list (F.map D.int)))(hi:i=x)(hx:x<F.length)(hF:F.length<=100):Aj (.ref k) (.int i) S=.ok (.int ((F.getD x 0).toNat:Int)) S:=by
 subst hi;rw[Lx hk (by exact(cast_nn _)) (by exact(F1 hx)) (by exact lk hF rfl),lG2,←Em L hx]
theorem J5.runY(g:J5 cs R C Fy Fx){ky x:Nat}{S:St}{i:Int}(gy:S.sto[ky]? =some (.list (Fy.map D.int)))(hi:i=x)(hx:x<=R):Aj (.ref ky) (.int i) S=.ok (.int ((Fy.getD x 0).toNat:Int)) S:=T3 g.ly gy hi (by rw[g.ny];exact Nat.lt_succ_of_le hx) (by rw[g.ny];exact lk (lI6 g.small.1) rfl)
theorem J5.runX(g:J5 cs R C Fy Fx){kx x:Nat}{S:St}{i:Int}(gx:S.sto[kx]? =some (.list (Fx.map D.int)))(hi:i=x)(hx:x<=C):Aj (.ref kx) (.int i) S=.ok (.int ((Fx.getD x 0).toNat:Int)) S:=T3 g.lx gx hi (by rw[g.nx];exact Nat.lt_succ_of_le hx) (by rw[g.nx];exact lk (lI6 g.small.2) rfl)
theorem zIC(g:J5 cs R C Fy Fx){kt kx ky:Nat}{σ:C3}{loc:Bm}{Q:Fl->St->Prop}(hc:cs.length<=400)(h1:σ[kt]? =some (.list (cs.map Ce)))(h2:σ[kx]? =some (.list (Fx.map D.int)))(h3:σ[ky]? =some (.list (Fy.map D.int)))
  {A:Bm->Prop}(hA:A loc) (hA1:∀l,A l->l 1=some (.ref kx)/\l 2=some (.ref ky)/\l 4=some (.ref σ.length)) (hA2:∀l a b c d e,A l->A (Be (Be (Be (Be (Be l 5 a) 6 b) 7 c) 8 d) 9 e))
  (hQ:∀l,A l->Q .next ⟨l,σ++[.list ((cs.map (D3 Fy Fx)).map qD)]⟩):
  W (By (Jg 5 (Bl (As 5) (Bl (As 6) (Bl (As 7) (Bl (As 8) (Bl (As 9) Fz)))))) (λσ'=>σ'[kt]? =some (.list (cs.map Ce))) (Ag (Af (Af (A6 4) (Dh λk=>Af (D6 (A9 (Ad Aj (A6 2) (A6 5)) (A9 (Ad Aj (A6 1) (A6 6)) (A9 (Ad Aj (A6 2) (Ad B0 (A6 5) (A6 7))) (A9 (Ad Aj (A6 1) (Ad B0 (A6 6) (A6 8))) Ai))))) (Bt k))) Ct)
 (A8 .next)) (cs.map Ce)) ⟨loc,σ++[.list []]⟩ Q:=by
 refine E2 (λdn st'=>A st'.loc/\st'.sto=σ++[.list ((dn.map (D3 Fy Fx)).map qD)]) (λ_ _ J=>by rw[J.2];exact(Cq.app _ _).get h1) (λdn c rest st' he J=>?_) (λst' J=>?_) ⟨hA,rfl⟩
 ·obtain⟨l,σ'⟩:=st';obtain⟨hl,e⟩:=J
  cases e;have mc:c∈cs:=by rw[he];exact lC6 _ lq1
  have gr:=g.row c mc;have gc:=g.col c mc;have hal:dn.length<=400:=by rw[he,lq7]at hc;exact lM7 (lI4 _ _) hc
  obtain⟨l1,l2,l4⟩:=hA1 l hl;have gx:(σ++[PO.list ((dn.map (D3 Fy Fx)).map qD)])[kx]? =some (.list (Fx.map D.int)):=(Cq.app _ _).get h2
  have gy:(σ++[PO.list ((dn.map (D3 Fy Fx)).map qD)])[ky]? =some (.list (Fy.map D.int)):=(Cq.app _ _).get h3
  refine⟨Be (Be (Be (Be (Be l 5 (.int (c.t:Int))) 6 (.int (c.l:Int))) 7 (.int ((c.b:Int) - c.t))) 8 (.int ((c.r:Int) - c.l))) 9 (.str c.x),rfl,Ax (Er (v:=qD (D3 Fy Fx c)) (A7 l4) lq3 (by rw[lq6,lq6];exact lk hal rfl) (Kj (ds:=[_,_,_,_]) (A5 (Ab (A7 l2) rfl (g.runY gy rfl (lM7 (lM6 gr.1) gr.2))) (A5 (A5 (Ab (A7 l1) rfl (g.runX gx rfl (lM7 (lM6 gc.1) gc.2))) (A5 (A5 (Ab (A7 l2) rfl (g.runY (x:=c.b) gy (zM7 _ _) gr.2)) (A5 (A5 (Ab (A7 l1) rfl (g.runX (x:=c.r) gx (zM7 _ _) gc.2)) rfl) rfl)) rfl)) rfl)) (by decide:4<=sizeLine))) (Aa rfl ⟨hA2 _ _ _ _ _ _ hl,?_⟩)⟩
  rw[lJ5,lJ5];exact Th rfl
 ·obtain⟨l,σ'⟩:=st';obtain⟨hl,e⟩:=J
  cases e;exact hQ l hl
noncomputable def T5:Mn Fl:=(Ag (Af (Af (D6 (A9 (A6 10) (A9 (A6 12) Ai))) Bq) λsrc=>By (As 14) src.g (Ag (J1 (A8 (.str (sO "+"))) (Ad Aj (A6 3) (A6 14)) (A6 11))
 (Ag (J1 (A8 (.str (sO "+"))) (Ad Aj (A6 3) (A6 14)) (A6 13))
 (A8 .next))) src.ds)
 (A8 .next))
noncomputable def zMM:Mn Fl:=(Ag (Af (Af (A9 (A6 3) (A9 (A6 10) (A9 (A6 11) (A9 (A6 12) (A9 (A6 13) Ai))))) Gf) Ct)
 (A8 .next))
noncomputable def zLs:Mn Fl:=(Ag (Af (Af (A9 (A6 3) (A9 (Ad Aj (A6 15) (A8 (.int 0))) (A9 (Ad Aj (A6 15) (A8 (.int 1))) (A9 (Ad Aj (A6 16) (A8 (.int 4))) Ai)))) H9) Ct)
 (A8 .next))
noncomputable def Q4:Mn Fl:=(Ag (Af (Af (A6 4) Bq) λsrc=>By (Jg 4 (Bl (As 10) (Bl (As 11) (Bl (As 12) (Bl (As 13) Fz))))) src.g T5 src.ds)
 (Ag (Af (Af (A6 4) Bq) λsrc=>By (Jg 4 (Bl (As 10) (Bl (As 11) (Bl (As 12) (Bl (As 13) Fz))))) src.g zMM src.ds)
 (Ag (Af (Af (A9 (A6 4) (A9 (Ad Aj (A6 0) (A8 (.int 2))) Ai)) Za) λsrc=>By (Jg 2 (Bl (As 15) (Bl (As 16) Fz))) src.g zLs src.ds)
 (Ag (Ca (Af (A8 (.str (sO "\n"))) (strM λx=>Af (A9 (Af (Af (A6 3) Bq) (C7 [18] (As 18) (A8 true) (Af (A8 (.str (Str.ofString ""))) (strM λx=>Af (A9 (A6 18) Ai) (Gm x))))) Ai) (Gm x))))
 (A8 .next)))))
noncomputable abbrev F3 (Fy:List Int)(R:Nat):Nat:=(Fy.getD R 0).toNat+1
theorem zF5{q:Qb}{n h w kb:Nat}{B:Bo}{σ0 σ:C3}(b:Bd n h w kb B σ0 σ)(hs:q.n<q.s/\q.w<q.e)(h1:q.s<h)(h2:q.e<w){loc:Bm}{A:Bm->Prop}(hA:A loc)(hA3:∀l,A l->l 3=some (.ref kb)/\l 10=some (.int (q.n:Int))/\l 11=some (.int (q.w:Int))/\l 12=some (.int (q.s:Int))/\l 13=some (.int (q.e:Int)))(hA4:∀l d,A l->A (Be l 14 d)):
  W T5 ⟨loc,σ⟩ λfl st'=>fl=.next/\A st'.loc/\Bd n h w kb (Hu (zFr q) 43 B) σ0 st'.sto:=by
 obtain⟨a3,a10,a11,a12,a13⟩:=hA3 loc hA;unfold T5;refine Al (Wb (Aa (A5 (A5 (A5 (A7 a10) (A5 (A5 (A7 a12) rfl) rfl)) rfl) rfl) ?_))
 refine Fg (α:=Nat) (xs:=[q.n,q.s]) (e:=λv=>D.int (v:Int)) (λ_ l=>A l) (λ_ v B=>Gp (Gp B v q.w 43) v q.e 43) (λ_ _ _=>trivial) (λi v hv l σ1 B1 hl b1=>?_) hA b λl σ1 hl b1=>?_
 ·have hv:v<h:=by
   rcases lL5.mp (lD5 hv)with e|e
   ·exact Cd (Ae x1 x0) [Ae x2 x3,Ae x3 x0,eq1 x1 x2] rT hs.1 h1 e
   ·rw[lq0 e];exact h1
  obtain⟨a3,a10,a11,a12,a13⟩:=hA3 l hl;refine⟨Be l 14 (.int (v:Int)),rfl,Ax (Ma b1 (c:=43) (y:=v) (x:=q.w) hv (lM9 hs.2 h2) rfl (A7 a3) (A7 (i:=14) rfl) rfl (A7 a11) rfl) ?_⟩
  have b2:=b1.put (x:=q.w) (c:=43) hv;exact Ax (Ma b2 (c:=43) (y:=v) (x:=q.e) hv h2 rfl (A7 a3) (A7 (i:=14) rfl) rfl (A7 a13) rfl) (Aa rfl ⟨rfl,hA4 _ _ hl,b2.put hv⟩)
 ·refine Aa rfl ⟨rfl,hl,?_⟩
  have e:Fo (λ_ v B=>Gp (Gp B v q.w 43) v q.e 43) 0 [q.n,q.s] B=Hu (zFr q) 43 B:=zGq
  rw[e]at b1;exact b.trans b1
theorem zKA(g:J5 cs R C Fy Fx){n kb kq kt:Nat}{σ0 σ:C3}{loc:Bm}{Q:Fl->St->Prop}(b:Bd n (F3 Fy R) (F3 Fx C) kb (λ_ _=>32) σ0 σ)
  (hq:σ[kq]? =some (.list ((cs.map (D3 Fy Fx)).map qD))) (nq:∀i,i<F3 Fy R->kq≠n+2*i+1) (ht:σ[kt]? =some (.list (cs.map Ce))) (nt:∀i,i<F3 Fy R->kt≠n+2*i+1)
  {ta tb:D}(l0:loc 0=some (.tup [ta,tb,.ref kt])) (l3:loc 3=some (.ref kb)) (l4:loc 4=some (.ref kq))
  (hQ:∀x l σ' B,cl x=Bz 10 (Di (F3 Fy R) (F3 Fx C) (Jk cs (D3 Fy Fx)))->Bd n (F3 Fy R) (F3 Fx C) kb B σ σ'->∀j,Q (.ret (.str x)) ⟨l,σ'++j⟩):W Q4 ⟨loc,σ⟩ Q:=by
 have hsz:=g.size;let A:Bm->Prop:=λl=>l 0=some (.tup [ta,tb,.ref kt])/\l 3=some (.ref kb)/\l 4=some (.ref kq)
 let A4:Qb->Bm->Prop:=λq l=>A l/\l 10=some (.int (q.n:Int))/\l 11=some (.int (q.w:Int))/\l 12=some (.int (q.s:Int))/\l 13=some (.int (q.e:Int))
 have bx:∀(i:Nat) (q:Qb),(cs.map (D3 Fy Fx))[i]? =some q->(q.n<q.s/\q.w<q.e)/\q.s<F3 Fy R/\q.e<F3 Fx C:=λi q h=>by
  obtain⟨c,mc,rfl⟩:=lM4.mp (lD5 h)
  have:=g.box mc
  exact⟨this.1,Nat.lt_succ_of_le this.2.1,Nat.lt_succ_of_le this.2.2⟩
 unfold Q4;refine Al (Wb (Aa (A5 (A7 l4) (Cv hq)) ?_))
 refine Fg (λ_ l=>A l) (λ_ q B=>Hu (zFr q) 43 B) (λσ' B' b'=>b'.keep _ _ hq nq) (λi q hi l σ1 B1 hl b1=>?_) ⟨l0,l3,l4⟩ b λl1 σ1 hl1 b1=>?_
 ·have hb:=bx i q hi;refine⟨Be (Be (Be (Be l 10 (.int (q.n:Int))) 11 (.int (q.w:Int))) 12 (.int (q.s:Int))) 13 (.int (q.e:Int)),rfl,?_⟩
  refine(zF5 (loc:=Be (Be (Be (Be l 10 (.int (q.n:Int))) 11 (.int (q.w:Int))) 12 (.int (q.s:Int))) 13 (.int (q.e:Int))) b1 hb.1 hb.2.1 hb.2.2 (A:=A4 q) ⟨hl,rfl,rfl,rfl,rfl⟩ (λl h=>⟨h.1.2.1,h.2⟩) λl d h=>h).mono ?_
  rintro fl ⟨l2,σ2⟩ ⟨rfl,h2,b2⟩
  exact⟨rfl,h2.1,b2⟩
 ·rw[Kg]at b1;have hq1:=b1.keep _ _ hq nq;refine Al (Wb (Aa (A5 (A7 hl1.2.2) (Cv hq1)) ?_))
  refine Fg (λ_ l=>A l) (λ_ q B=>Db (X5 q) 124 (Db (Uf q) 45 B)) (λσ' B' b'=>b'.keep _ _ hq1 nq) (λi q hi l σ2 B2 hl b2=>?_) hl1 b1 λl2 σ2 hl2 b2=>?_
  ·have hb:=bx i q hi;refine⟨Be (Be (Be (Be l 10 (.int (q.n:Int))) 11 (.int (q.w:Int))) 12 (.int (q.s:Int))) 13 (.int (q.e:Int)),rfl,?_⟩
   refine Al (Wb (Wb (Aa (A5 (A7 hl.2.1) rfl) (zHW (lM6 hb.1.1) (lM6 hb.1.2) hb.2.1 hb.2.2 b2 λσ3 b3=>?_))))
   exact Aa rfl (Aa rfl ⟨rfl,hl,b2.trans b3⟩)
  ·rw[Kg]at b2;have hq2:=b2.keep _ _ hq1 nq;have ht2:=b2.keep _ _ (b1.keep _ _ ht nt) nt;refine Al (Wb (Wb (Aa (A5 (A7 hl2.2.2) (A5 (A5 (Ab (A7 hl2.1) rfl rfl) rfl) rfl)) (zDN hq2 ht2 ?_))))
   have ez:Fu ((cs.map (D3 Fy Fx)).map qD) (cs.map Ce)=cs.map λc=>D.tup [qD (D3 Fy Fx c),Ce c]:=by
    unfold Fu;rw[lM3,List.zip_map',lM3];rfl
   rw[ez];have b3:=b2.here.ext [.priv];have b3':=b3.here;refine Fg (α:=Cn) (λ_ l=>A l) (λ_ c B=>Rs (D3 Fy Fx c) c.x B) (λσ' B' b'=>⟨b'.keep _ _ (b3.keep _ _ hq2 nq) nq,b'.keep _ _ (b3.keep _ _ ht2 nt) nt,b2.new (lN4 _) b' lq3⟩) (λi c hi l σ4 B4 hl b4=>?_) hl2 b3' λl4 σ4 hl4 b4=>?_
   ·have mc:=lD5 hi;refine⟨Be (Be l 15 (qD (D3 Fy Fx c))) 16 (Ce c),rfl,?_⟩
    refine Al (Wb (Wb (Aa (A5 (A7 hl.2.1) rfl) (Vq (g.fits mc) b4 λσ5 b5=>?_))))
    exact Aa rfl (Aa rfl ⟨rfl,hl,b4.trans b5⟩)
   ·rw[Kg]at b4;refine Al (Wb (zG5 b4 ?_ (v:=18) (ib:=3) hl4.2.1 λx j hx=>Aa rfl (hQ x _ _ _ hx (((b1.trans b2).trans b3).trans b4) j)))
    have:F3 Fy R*F3 Fx C<=4081*4081:=lL0 (by show(Fy.getD R 0).toNat+1<=_;exact X7 (Ac (.a x0 (.n 1)) (.n 4081)) [Ac x0 (.n 4080)] rT hsz.1) (by show(Fx.getD C 0).toNat+1<=_;exact X7 (Ac (.a x0 (.n 1)) (.n 4081)) [Ac x0 (.n 4080)] rT hsz.2)
    show F3 Fy R*F3 Fx C+((Fy.getD R 0).toNat+1)<=_
    exact Cp (Ac (.a x1 (.a x0 (.n 1))) (.n 16777216)) [Ac x0 (.n 4080),Ac x1 (.m 4081 (.n 4081))] rT hsz.1 this
end
end
section
open Builtin.Str
noncomputable def X1:Mn Fl:=(Ag (Af (Af (A9 (A6 0) Ai) Lr) (Ah 1))
 (Ag (Af (Af (A9 (A6 0) Ai) T4) (Ah 2))
 (Ag (Af (Af (Af (A9 (Ad B0 (Ad Aj (A6 2) (Ad Aj (A6 0) (A8 (.int 0)))) (A8 (.int 1))) Ai) Cj) (C7 [17] (As 17) (A8 true) (Ad Ey (Cs (A9 (A8 (.str (sO " "))) Ai)) (Ad B0 (Ad Aj (A6 1) (Ad Aj (A6 0) (A8 (.int 1)))) (A8 (.int 1)))))) (Ah 3))
 (Ag (Af (Cs Ai) (Ah 4))
 (Ag (Af (Af (Ad Aj (A6 0) (A8 (.int 2))) Bq) λsrc=>By (Jg 5 (Bl (As 5) (Bl (As 6) (Bl (As 7) (Bl (As 8) (Bl (As 9) Fz)))))) src.g (Ag (Af (Af (A6 4) (Dh λk=>Af (D6 (A9 (Ad Aj (A6 2) (A6 5)) (A9 (Ad Aj (A6 1) (A6 6)) (A9 (Ad Aj (A6 2) (Ad B0 (A6 5) (A6 7))) (A9 (Ad Aj (A6 1) (Ad B0 (A6 6) (A6 8))) Ai))))) (Bt k))) Ct)
 (A8 .next)) src.ds)
 Q4)))))
theorem Dr.bd(t:Dr σ)(b:Bd n h w kb B σ σ')(hn:σ.length<=n):Dr σ':=by
 obtain⟨k,e,hk⟩:=t;have go:∀(i:Nat) (o:PO),σ[i]? =some o->σ'[i]? =some o:=λi o e=>b.keep i o e λj _ z=>by
  have:=(lq2 e).1
  exact An [_,_,_,_] [Ac x0 x1,Cz x2 (.a (.a x1 (.m 2 x3)) (.n 1)),Ae x2 x0,Qe 2 (.n 0) x3] rT hn z this (lq5 _)
 exact⟨k,go _ _ e,λm q=>go _ _ (hk m q)⟩
theorem Kp.bd(b:Bd n h w kb B σ σ')(hn:σ.length<=n):Kp σ σ':=⟨b.len,λi ds e=>b.keep i _ e λj _ z=>by
 have:=(lq2 e).1
 exact An [_,_,_,_] [Ac x0 x1,Cz x2 (.a (.a x1 (.m 2 x3)) (.n 1)),Ae x2 x0,Qe 2 (.n 0) x3] rT hn z this (lq5 _)⟩
theorem Wi{i:Int}{m:Nat}{S:St}(hi:i=m)(hm:m<=100000):Cj [.int i] S=.ok ⟨Ez 0 1 m,λ_=>True⟩ S:=by
 subst hi;exact Bg (J7.mpr ⟨Dl.mpr ⟨by exact H6 (Ac (.s (.n 0) (.n 1099511627776)) x0) [Ac (.n 0) x0] rT (cast_nn _),by exact zDH (Cc hm) rfl⟩,rfl,rfl⟩)
theorem zCu{R C:Nat}{cs:List Cn}{r:Nat}{σ:C3}{loc:Bm}{Q:Fl->St->Prop}(hRC:R<=20/\C<=20)(t1:∀c,c∈cs->c.t<c.b/\c.b<=R)(t2:∀c,c∈cs->c.l<c.r/\c.r<=C)(t3:∀c,c∈cs->c.x.length<=201)(t4:cs.length<=400)
  (l0:loc 0=some (.tup [.int (R:Int),.int (C:Int),.ref r])) (h0:Dr σ) (hr:σ[r]? =some (.list (cs.map Ce)))
  (hQ:∀Fy Fx x l σ',J5 cs R C Fy Fx->cl x=Bz 10 (Di (F3 Fy R) (F3 Fx C) (Jk cs (D3 Fy Fx)))->Dr σ'->Kp σ σ'->Q (.ret (.str x)) ⟨l,σ'⟩):W X1 ⟨loc,σ⟩ Q:=by
 have tx:∀c,c∈cs->c.x.length<=1000:=λc m=>lM7 (t3 c m) (by decide)
 unfold X1;refine Al (Wb (Wb (Aa (A5 (A7 l0) rfl) (zFR (by exact lk hRC.2 rfl) t4 (Nd λc m=>(t2 c m).1) tx hr λFx j1 LX nx=>Aa rfl ?_))))
 generalize hs1:σ++j1=σ1
 have x1:Cq σ σ1:=hs1▸Cq.app _ _
 refine Al (Wb (Wb (Aa (A5 (A7 (i:=0) l0) rfl) (zJ3 (by exact lk hRC.1 rfl) t4 (Nd λc m=>(t1 c m).1) tx ((x1.trans (.app _ _)).get hr) λFy j2 LY ny=>Aa rfl ?_))))
 generalize hs2:σ1++[PO.list (Fx.map D.int)]++j2=σ2
 have x2:Cq (σ1++[PO.list (Fx.map D.int)]) σ2:=hs2▸Cq.app _ _
 have g:J5 cs R C Fy Fx:=⟨t1,t2,t3,LY,LX,ny,nx,hRC⟩
 have hsz:=g.size;have gx:(σ2++[PO.list (Fy.map D.int)])[σ1.length]? =some (.list (Fx.map D.int)):=(x2.trans (.app _ _)).get lq3
 have gy:(σ2++[PO.list (Fy.map D.int)])[σ2.length]? =some (.list (Fy.map D.int)):=lq3
 have hx:Cq σ (σ2++[PO.list (Fy.map D.int)]):=(x1.trans (.app _ _)).trans (x2.trans (.app _ _))
 generalize hs3:σ2++[PO.list (Fy.map D.int)]=σ3 at gx gy hx
 have h03:=h0.ext hx;have hr3:=hx.get hr;refine Ax (run_set (A5 (A5 (A5 (Ab (Ab rfl (Ab (A7 (i:=0) l0) rfl rfl) (T3 g.ly gy rfl (by lia) (by lia))) rfl rfl) rfl) (Wi (m:=F3 Fy R) (by show _=(((Fy.getD R 0).toNat+1:Nat):Int);lia) (by show(Fy.getD R 0).toNat+1<=_;lia)))
  (zB6 (h:=F3 Fy R) (w:=F3 Fx C) (A:=λl=>l 0=some (.tup [.int (R:Int),.int (C:Int),.ref r])/\l 1=some (.ref σ1.length)) Ji (by show(Fy.getD R 0).toNat+1<=_;lia) (by show(Fx.getD C 0).toNat+1<=_;lia) (λl j hl=>Ab (Ab (A7 hl.2) (Ab (A7 hl.1) rfl rfl) (T3 g.lx ((Cq.app _ _).get gx) rfl (by lia) (by lia))) rfl rfl) (λl d hl=>hl) ⟨l0,rfl⟩))) ?_
 have b4:=zEe (σ:=σ3) (h:=F3 Fy R) (w:=F3 Fx C) (by show(Fy.getD R 0).toNat+1<=_;exact X7 (Ac (.a x0 (.n 1)) (.n 100000)) [Ac x0 (.n 4080)] rT hsz.1) (by show(Fx.getD C 0).toNat+1<=_;exact X7 (Ac (.a x0 (.n 1)) (.n 100000)) [Ac x0 (.n 4080)] rT hsz.2)
 have x4:Cq σ3 (σ3++Qw (F3 Fx C) (F3 Fy R)++[PO.list (Pn σ3.length (F3 Fy R))]):=(Cq.app _ _).trans (.app _ _)
 generalize hs4:σ3++Qw (F3 Fx C) (F3 Fy R)++[PO.list (Pn σ3.length (F3 Fy R))]=σ4 at b4 x4
 refine Ax rfl (Al (Wb (Aa (A5 (Ab (A7 (i:=0) l0) rfl rfl) (Cv ((x4.trans (.app _ _)).get hr3))) ?_)))
 refine zIC g t4 (x4.get hr3) (x4.get gx) (x4.get gy) (A:=λl=>l 0=some (.tup [.int (R:Int),.int (C:Int),.ref r])/\l 1=some (.ref σ1.length)/\l 2=some (.ref σ2.length)/\l 3=some (.ref (σ3.length+2*F3 Fy R))/\l 4=some (.ref σ4.length)) ⟨l0,rfl,rfl,rfl,rfl⟩ (λl h=>⟨h.2.1,h.2.2.1,h.2.2.2.2⟩) (λl a b c d e h=>h) λl5 hl5=>?_
 have off:∀i o,σ3[i]? =some o->∀j,j<F3 Fy R->i≠σ3.length+2*j+1:=λi o e j _ z=>by
  have hq1:=(lq2 e).1;lia
 refine zKA g (b4.ext _) lq3 (λi hi z=>?_) ((x4.trans (.app _ _)).get hr3) (off _ _ hr3) hl5.1 hl5.2.2.2.1 hl5.2.2.2.2 λx l6 σ6 B6 hx6 b6 j=>?_
 ·exact Nat.ne_of_gt (b4.lt hi) z
 ·have b7:=((b4.ext _).trans b6).ext j;exact hQ Fy Fx x l6 _ g hx6 (h03.bd b7 (lN4 _)) (hx.kp.trans (Kp.bd b7 (lN4 _)))
theorem Jz{cs:List Cn}{P:Cn->Prop}(h:∀c,c∈cs->P (c.mv (kq (Av false cs) 0) (kq (Av true cs) 0))):∀c,c∈Dn cs->P c:=λc m=>by
 obtain⟨e,me,rfl⟩:=lM4.mp m;exact h e me
theorem Zn{R C:Nat}{cs:List Cn}{k:Nat}{st:St}{Q:D->St->Prop}(h0:Dr st.sto)(ok:zEb R C cs)(hRC:R<=20/\C<=20)(hst:∀c,c∈cs->c.t<c.b/\c.l<c.r)(htx:∀c,c∈cs->c.x.length<=201)(hk:st.sto[k]? =some (.list (cs.map Ce)))
  (hQ:∀Fy Fx x σ',J5 (Dn cs) (kq (Av false cs) 0 R) (kq (Av true cs) 0 C) Fy Fx->cl x=Bz 10 (Di (F3 Fy (kq (Av false cs) 0 R)) (F3 Fx (kq (Av true cs) 0 C)) (Jk (Dn cs) (D3 Fy Fx)))->Dr σ'->Kp st.sto σ'->Q (.str x) ⟨st.loc,σ'⟩):
  W (Hb [.tup [.int (R:Int),.int (C:Int),.ref k]]) st Q:=by
 have hR':=Uo (b:=Av false cs) (a:=0) R;have hC':=Uo (b:=Av true cs) (a:=0) C;refine Bu rfl ?_
 refine Al (Wb (Wb (Aa rfl (zAd h0 ok hk λr σ1 t k1 _ hr=>Aa rfl ?_))))
 exact zCu (R:=kq (Av false cs) 0 R) (C:=kq (Av true cs) 0 C) (cs:=Dn cs) (by exact⟨lM7 hR' hRC.1,lM7 hC' hRC.2⟩) (Jz λc m=>⟨Nq (.inl (Ni (w:=false) m)) (hst c m).1,D9 _ (ok.row c m).2⟩) (Jz λc m=>⟨Nq (.inl (Ni (w:=true) m)) (hst c m).2,D9 _ (ok.col c m).2⟩) (Jz λc m=>htx c m)
  (by unfold Dn;rw[lq6];exact ok.len) rfl t hr λFy Fx x l σ' g hx t' k'=>hQ Fy Fx x σ' g hx t' (k1.trans k')
end
section
open Builtin.Str
theorem Mh(J:Nat->St->Prop)(step:∀n st,J n st->W c st λt st1=>if t=true then W b st1 (zKN (λst2=>∃m,m<n/\J m st2) Q)else Q .next st1)(f:Nat):∀(n:Nat) (st:St),n<f->J n st->W (U4 c b f) st Q:=by
 induction f with
 |zero=>intro n st h;exact absurd h (lJ9 _)
 |succ f ih=>
  intro n st h j;refine Wb ((step n st j).mono λt st1 q=>?_)
  cases t with
  |false=>exact Aa rfl q
  |true=>
   refine Wb ((show W b st1 _ from q).mono λfl st2 q2=>?_)
   cases fl with
   |next=>obtain⟨m,hm,jm⟩:=q2;exact ih m st2 (by exact Ck (Ae x1 x0) [Ae x2 (.a x0 (.n 1)),Ae x1 x2] rT h hm) jm
   |cont=>obtain⟨m,hm,jm⟩:=q2;exact ih m st2 (by exact Ck (Ae x1 x0) [Ae x2 (.a x0 (.n 1)),Ae x1 x2] rT h hm) jm
   |brk=>exact Aa rfl q2
   |ret d=>exact Aa rfl q2
theorem zF7{k:Nat}{ns:List Int}{m:Int}{S:St}(h:S.sto[k]? =some (.list (ns.map D.int)))(hm:ns.min? =some m):Vg [.ref k] S=.ok (.int m) S:=by
 have hm':zH4 ns=some m:=hm
 refine(Bf h).trans ?_
 simp only[Fa,Option.bind_some,hm',lK1];rfl
theorem zCL{k:Nat}{ns:List Int}{x:Int}{S:St}(h:S.sto[k]? =some (.list (ns.map D.int)))(hm:x∈ns)(hl:ns.length<=1000):Q2 k (.int x) S=.ok (.int (ns.idxOf x:Nat)) S:=by
 refine(Bf h).trans ?_
 rw[Fa];exact C8 ⟨by simpa using hm,by exact zAm hl rfl⟩
noncomputable def zCI (b:Bn):D:=.tup [.int (b.t:Int),.int (b.l:Int),.int ((b.b:Int) - b.t),.int ((b.r:Int) - b.l)]
noncomputable def Kw (fr:List Nat):List D:=(fr.map λ(n:Nat)=>(n:Int)).map D.int
theorem Zs:(Kw fr).length=fr.length:=by unfold Kw;simp
theorem Yh(h:j<fr.length):(fr.map λ(n:Nat)=>(n:Int)).getD j 0=(at0 fr j:Int):=by
 unfold at0;rw[lA2,lA2,lG3,lA9 h];rfl
theorem zJl(h:fr≠[]):∃m:Nat,(fr.map λ(n:Nat)=>(n:Int)).min? =some (m:Int)/\m∈fr/\∀x,x∈fr->m<=x:=by
 cases hm:(fr.map λ(n:Nat)=>(n:Int)).min? with
 |none=>exact absurd (List.map_eq_nil_iff.mp (List.min?_eq_none_iff.mp hm)) h
 |some v=>
  obtain⟨h1,h2⟩:=List.min?_eq_some_iff.mp hm
  obtain⟨m,mm,rfl⟩:=lM4.mp h1;exact⟨m,rfl,mm,λx mx=>by have:=h2 _ (lM4.mpr ⟨x,mx,rfl⟩);exact G9 (this)⟩
theorem zK6(h:m∈fr):∃l:Nat,(fr.map λ(n:Nat)=>(n:Int)).idxOf (m:Int)=l/\l<fr.length/\at0 fr l=m/\∀j,j<l->at0 fr j≠m:=by
 have hm:(m:Int)∈fr.map λ(n:Nat)=>(n:Int):=lM4.mpr ⟨m,h,rfl⟩
 have hlt:=List.idxOf_lt_length_iff.mpr hm;have hlt':(fr.map λ(n:Nat)=>(n:Int)).idxOf (m:Int)<fr.length:=by rw[lq6]at hlt;exact hlt
 refine⟨_,rfl,hlt',?_,λj hj e=>?_⟩
 ·have h1:=List.getElem_idxOf hlt;have h2:=Yh hlt';rw[lA2,lA9 hlt]at h2;have h3:(m:Int)=(at0 fr _:Int):=h1.symm.trans h2
  exact Nh (Kl (λZ=>Az [_,_,_] [Ae x1 x0,Cz x2 x0,eq1 x2 x1] rT Z h1 h2) (λZ=>Az [_,_,_] [Ae x0 x1,eq1 x2 x0,Cz x2 x1] rT Z h1 h2))
 ·have hj':j<fr.length:=lM9 hj hlt'
  have h2:=Yh hj';rw[lA2,lA9 (by rw[lq6];exact hj')]at h2
  have:=ne_of_lt_idxOf hj (by rw[lq6];exact hj')
  rw[show(fr.map λ(n:Nat)=>(n:Int))[j]'(by rw[lq6];exact hj')=(at0 fr j:Int)from h2,e]at this
  simp at this
noncomputable def zLX:Mn Bool:=(Oa (C1 Qk (Ad B0 (A6 7) (A6 8)) (A6 1)) (C1 F2 (Ad Aj (A6 3) (Ad B0 (A6 7) (A6 8))) (A6 6)))
noncomputable def zMg:Mn Fl:=(Ag (Af (Ad B0 (A6 8) (A8 (.int 1))) (Ah 8)) (A8 .next))
structure TB (R C kn kb:Nat)(loc:Bm):Prop where
 l0:loc 0=some (.int (R:Int))
 l1:loc 1=some (.int (C:Int))
 l2:loc 2=some (.ref kn)
 l4:loc 4=some (.ref kb)
structure TA (R C kn kb kf m l:Nat)(k:Int)(loc:Bm):Prop where
 b:TB R C kn kb loc
 l3:loc 3=some (.ref kf)
 l5:loc 5=some (.int k)
 l6:loc 6=some (.int (m:Int))
 l7:loc 7=some (.int (l:Int))
theorem TA.u8(h:TA R C kn kb kf m l k loc):TA R C kn kb kf m l k (Be loc 8 d):=⟨⟨h.b.l0,h.b.l1,h.b.l2,h.b.l4⟩,h.l3,h.l5,h.l6,h.l7⟩
theorem TA.u9(h:TA R C kn kb kf m l k loc):TA R C kn kb kf m l k (Be loc 9 d):=⟨⟨h.b.l0,h.b.l1,h.b.l2,h.b.l4⟩,h.l3,h.l5,h.l6,h.l7⟩
inductive zOt (R C kn kb kf m l:Nat)(k:Int)(fr:List Nat)(σ:C3)(n:Nat)(st:St):Prop
 |mk (r:Nat) (e:st.sto=σ) (A:TA R C kn kb kf m l k st.loc) (h8:st.loc 8=some (.int (r:Int))) (r1:1<=r) (r2:l+r+n=C) (hr:∀j,l<=j->j<l+r->at0 fr j=m)
theorem zL0(hA:TA R C kn kb kf m l k loc)(l8:loc 8=some (.int 1))(hf:σ[kf]? =some (.list (Kw fr)))(hC:fr.length=C)(hC2:C<=20)(hl:l<C)(hm:at0 fr l=m)(hQ:∀(r:Nat) loc',TA R C kn kb kf m l k loc'->loc' 8=some (.int (r:Int))->1<=r->l+r<=C->(∀j,l<=j->j<l+r->at0 fr j=m)->Q .next ⟨loc',σ⟩):W (Gn zLX zMg) ⟨loc,σ⟩ Q:=by
 refine Mh (zOt R C kn kb kf m l k fr σ) ?_ 1000000 (C - (l+1)) ⟨loc,σ⟩ (zAm (lM7 (Nat.sub_le _ _) hC2) rfl) ⟨1,rfl,hA,l8,lN4 _,lE5 hl,λj h1 h2=>by rw[lJ7 (lG8 h2) h1];exact hm⟩
 rintro n ⟨l1,σ1⟩ ⟨r,e,A,h8,r1,r2,hr⟩
 cases e;have hlr:l+r<=C:=by rw[←r2];exact lI4 _ _
 unfold zLX;refine zHB (Aa (B8 (t:=decide ((l:Int)+r<C)) (Ab (A7 A.l7) (A7 h8) rfl) (A7 A.b.l1) rfl rfl) ?_)
 by_cases z:(l:Int)+r<C
 ·rw[lO6 (lL1 z)];have hv:=Lx (st:=⟨l1,σ1⟩) (F:=fr.map λ(n:Nat)=>(n:Int)) (i:=(l:Int)+r) hf (Int.add_nonneg (cast_nn _) (cast_nn _)) (by rw[lq6,hC];exact z) (by rw[lq6,hC];exact lk hC2 rfl)
  rw[show((l:Int)+r).toNat=l+r from lG2 (l+r),Yh (by rw[hC];exact Int.ofNat_lt.mp z)]at hv
  refine Aa (B8 (t:=((at0 fr (l+r):Int)==(m:Int))) (Ab (A7 A.l3) (Ab (A7 A.l7) (A7 h8) rfl) hv) (A7 A.l6) rfl rfl) ?_
  by_cases y:at0 fr (l+r)=m
  ·rw[lO6 (lN8.mpr (M9 y))]
   cases n with
   |zero=>exact absurd z (by rw[←r2];exact Int.lt_irrefl _)
   |succ n=>
    refine Ax (run_set (Ab (A7 h8) rfl rfl)) (Aa rfl ⟨n,lI5 _,r+1,rfl,A.u8,rfl,Nat.le_succ_of_le r1,by rw[←r2];exact Du (λZ=>An [_,_,_] [Ae (.a (.a x0 (.a x1 (.n 1))) x2) (.a (.a x0 x1) (.a x2 (.n 1)))] rT Z) (λZ=>An [_,_,_] [Ae (.a (.a x0 x1) (.a x2 (.n 1))) (.a (.a x0 (.a x1 (.n 1))) x2)] rT Z),λj h1 h2=>?_⟩)
    rcases lF6 (lG8 h2)with q|q
    ·exact hr j h1 q
    ·rw[q];exact y
  ·rw[lO5 (λe=>y (Nh (lN8.mp e)))]
   exact hQ r l1 A h8 r1 hlr hr
 ·rw[lO5 (λe=>z (lH3 e))]
  exact hQ r l1 A h8 r1 hlr hr
end
section
open Builtin.Str
noncomputable def zES:Mn D:=(Ad B0 (Ad B0 (Fb (A6 3) none (some (A6 7))) (Ad Ey (Cs (A9 (Ad B0 (A6 6) (A6 11)) Ai)) (A6 10))) (Fb (A6 3) (some (Ad B0 (A6 7) (A6 10))) none))
theorem zDB:(Kw fr).take n=Kw (fr.take n):=by unfold Kw;rw[List.map_take,List.map_take]
theorem zEz:(Kw fr).drop n=Kw (fr.drop n):=by unfold Kw;rw[List.map_drop,List.map_drop]
theorem zAQ:Kw a++Kw b=Kw (a++b):=by unfold Kw;rw[lJ5,lJ5]
theorem So{w v:Nat}:List.replicate w (D.int (v:Int))=Kw (List.replicate w v):=by unfold Kw;rw[List.map_replicate,List.map_replicate]
theorem zBy(hm:m S=.ok (.ref k) S)(hi:mi S=.ok (.int i) S)(hk:S.sto[k]? =some (.list ds))(h2:ds.length<=sizeLine)(h0:0<=i)(h1:i<=ds.length):Fb m none (some mi) S=.ok (.ref S.sto.length) ⟨S.loc,S.sto++[.list (ds.take i.toNat)]⟩:=by
 rw[←zKU ds h0 h1];exact Bg (zO0 (Aa hm (zOl (zOY (Aa hi (zO7 (Aa (zAP hk h2) ⟨rfl,rfl⟩)))))))
theorem Ur(hm:m S=.ok (.ref k) S)(hi:mi S=.ok (.int i) S)(hk:S.sto[k]? =some (.list ds))(h2:ds.length<=sizeLine)(h0:0<=i)(h1:i<=ds.length):Fb m (some mi) none S=.ok (.ref S.sto.length) ⟨S.loc,S.sto++[.list (ds.drop i.toNat)]⟩:=by
 rw[←zEK ds h0 h1];exact Bg (zO0 (Aa hm (zOY (Aa hi (zO7 (zOl (Aa (zAP hk h2) ⟨rfl,rfl⟩)))))))
theorem zCm{kf l m h w:Nat}{ih iw:Int}{fr:List Nat}{σ:C3}{loc:Bm}(l3:loc 3=some (.ref kf))(l6:loc 6=some (.int (m:Int)))(l7:loc 7=some (.int (l:Int)))(l10:loc 10=some (.int iw))(l11:loc 11=some (.int ih))(hw:iw=w)(hh:ih=h)
  (hf:σ[kf]? =some (.list (Kw fr))) (hlen:fr.length<=20) (hlw:l+w<=fr.length):∃σ',Cq σ σ'/\zES ⟨loc,σ⟩=.ok (.ref σ'.length) ⟨loc,σ'++[.list (Kw (put fr l w (m+h)))]⟩:=by
 subst hw hh;have hf1:(Kw fr).length<=20:=by rw[Zs];exact hlen
 have hi:((l:Int)+w)<=(Kw fr).length:=by rw[Zs];exact Cc hlw
 have hr:(N2 (w:Int) [D.int ((m:Int)+h)]).length<=20:=by rw[J8,lC4];exact lM7 (lM7 (Nat.le_add_left _ _) hlw) hlen
 have ht:((Kw fr).take (l:Int).toNat).length<=20:=by rw[lI2];exact lM7 (Nat.min_le_right _ _) hf1
 have hd:((Kw fr).drop ((l:Int)+w).toNat).length<=20:=by rw[lI1];exact lM7 (Nat.sub_le _ _) hf1
 have e:(Kw fr).take (l:Int).toNat++N2 (w:Int) [D.int ((m:Int)+h)]++(Kw fr).drop ((l:Int)+w).toNat=Kw (put fr l w (m+h)):=by
  rw[J8,show((m:Int)+h)=((m+h:Nat):Int)from rfl,So,zDB,zEz,zAQ,zAQ];rfl
 rw[←e];exact⟨_,((((Cq.app _ _).trans (.app _ _)).trans (.app _ _)).trans (.app _ _)).trans (.app _ _),Ab (Ab (zBy (A7 l3) (A7 l7) hf (lk hf1 rfl) (cast_nn _) (lM2 (Int.le_add_of_nonneg_right (cast_nn _)) hi)) (Ab (zAp (A5 (Ab (A7 l6) (A7 l11) rfl) rfl) (by decide:1<=sizeLine)) (A7 l10) (Ly lq3 (cast_nn _) (by exact zLj λZ=>Az [(↑w),(↑fr.length),(↑l)] [Ac (.n 4611686018427387904) x0,Ac x1 (.n 20),Ac (.a x2 x0) x1,Ac (.n 0) x2] rT Z (Cc hlen) (Cc hlw) (cast_nn _)) (by show 1*w<=_;exact X6 λZ=>An [(w),(fr.length),(l)] [Ae (.n 16777216) (.m 1 x0),Ac x1 (.n 20),Ac (.a x2 x0) x1,Ac (.n 0) x2] rT Z hlen hlw (lq5 _)))) (P5 ((Cq.app _ _).get ((Cq.app _ _).get lq3)) lq3 (lk (Nat.add_le_add ht hr) rfl))) (Ur (i:=(l:Int)+w) (A7 l3) (Ab (A7 l7) (A7 l10) rfl) (((((Cq.app _ _).trans (.app _ _)).trans (.app _ _)).trans (.app _ _)).get hf) (lk hf1 rfl) (Int.add_nonneg (cast_nn _) (cast_nn _)) hi) (P5 ((Cq.app _ _).get lq3) lq3 (by rw[lq7];exact lk (Nat.add_le_add (Nat.add_le_add ht hr) hd) rfl))⟩
end
section
open Builtin.Str
theorem Yj{α:Type}{e:α->D}{xs:List α}:Ip (xs.map e)=xs.zipIdx.map λp=>D.tup [.int (p.2:Int),e p.1]:=by
 unfold Ip;rw[List.zipIdx_map,lM3];rfl
theorem W2{v:Int}{r:Nat}(h:1<=r):∃w:Nat,1+v.fmod (r:Int)=(w:Int)/\1<=w/\w<=r:=by
 have:=C6 (a:=v) (b:=(r:Int)) (by exact zN5 (Cc h) rfl)
 exact⟨(1+v.fmod (r:Int)).toNat,by exact Kl (λZ=>Az [_,_] [Ae (.a (.n 1) x0) x1,eq1 x1 (.a (.n 1) x0)] rT Z (D5 (H6 (Ac (.n 0) (.a (.n 1) x0)) [Ac (.n 0) x0] rT this.1))) (λZ=>Az [_,_] [Ae x1 (.a (.n 1) x0),Ac (.a (.n 1) x0) x1] rT Z (Hy _)),by exact G9 (Vt (Ac (.n 1) x0) [Ac (.n 0) x1,Ac (.a (.n 1) x1) x0] rT this.1 (Hy _)),by exact G9 (zIX (Ac x1 x0) [Ae x2 x0,eq1 x1 (.a (.n 1) x2)] rT this.2 (D5 (H6 (Ac (.n 0) (.a (.n 1) x0)) [Ac (.n 0) x0] rT this.1)))⟩
noncomputable def Xa:Mn Fl:=(Ag (Af (Af (A8 (.int 1)) zH8) (Ah 9))
 (Ag (Ex (C1 Qk (A6 5) (Af (A9 (A6 2) Ai) Cf)) (Ag (Af (Ad Aj (A6 2) (A6 5)) (Ah 9))
 (A8 .next)) (A8 .next))
 (Ag (Af (Ad B0 (A8 (.int 1)) (Ad E1 (A6 9) (A6 8))) (Ah 10))
 (Ag (Af (Ad B0 (A8 (.int 1)) (Ad E1 (Ad Hq (A6 9) (A6 8)) (Ad H2 (A6 0) (A6 6)))) (Ah 11))
 (Ag (Af (Af (A6 4) (Dh λk=>Af (D6 (A9 (A6 6) (A9 (A6 7) (A9 (A6 11) (A9 (A6 10) Ai))))) (Bt k))) Ct)
 (Ag (Af zES (Ah 3))
 (A8 .next)))))))
inductive zOb (R C kn kb m l r:Nat)(fr:List Nat)(bs:List Bn)(σ:C3)(st':St):Prop
 |mk (w h kf':Nat) (b:TB R C kn kb st'.loc) (w1:1<=w) (w2:w<=r) (h1:1<=h) (h2:m+h<=R) (l3:st'.loc 3=some (.ref kf')) (hl:σ.length<=kf') (x:Cq (σ.set kb (.list (bs.map zCI++[zCI ⟨m,l,m+h,l+w⟩]))) st'.sto) (f:st'.sto[kf']? =some (.list (Kw (put fr l w (m+h)))))
theorem zHj{R C kn kb kf m l k r:Nat}{fr:List Nat}{bs:List Bn}{ns:List Int}{σ:C3}{loc:Bm}(hA:TA R C kn kb kf m l (k:Int) loc)(l8:loc 8=some (.int (r:Int)))(hf:σ[kf]? =some (.list (Kw fr)))(hb:σ[kb]? =some (.list (bs.map zCI)))(hne:kb≠kf)(hn:σ[kn]? =some (.list (ns.map D.int)))(hnl:ns.length<=1000)
  (hbl:bs.length<=400) (hC:fr.length=C) (hC2:C<=20) (hR2:R<=20) (r1:1<=r) (hr:l+r<=C) (hm:m<R):
  W Xa ⟨loc,σ⟩ λfl st'=>fl=.next/\zOb R C kn kb m l r fr bs σ st':=by
 have hsl:(1000:Nat)<=sizeLine:=by decide
 unfold Xa;refine Ax rfl ?_
 have go:∀(v:Int) (l9:Bm),TA R C kn kb kf m l (k:Int) l9->l9 8=some (.int (r:Int))->l9 9=some (.int v)->W (Ag (Af (Ad B0 (A8 (.int 1)) (Ad E1 (A6 9) (A6 8))) (Ah 10))
 (Ag (Af (Ad B0 (A8 (.int 1)) (Ad E1 (Ad Hq (A6 9) (A6 8)) (Ad H2 (A6 0) (A6 6)))) (Ah 11))
 (Ag (Af (Af (A6 4) (Dh λk=>Af (D6 (A9 (A6 6) (A9 (A6 7) (A9 (A6 11) (A9 (A6 10) Ai))))) (Bt k))) Ct)
 (Ag (Af zES (Ah 3))
 (A8 .next))))) ⟨l9,σ⟩ λfl st'=>fl=.next/\zOb R C kn kb m l r fr bs σ st':=λv l9 hA9 h8 h9=>by
  obtain⟨w,ew,w1,w2⟩:=W2 (v:=v) r1
  obtain⟨h,eh,h1,h2⟩:=W2 (v:=v.fdiv (r:Int)) (r:=R - m) (by exact Ck (Ac (.n 1) x0) [Ae x2 x1,Ac x1 (.a x0 x2)] rT hm (Ao _ _))
  rw[show((R - m:Nat):Int)=(R:Int) - m by exact Kl (λZ=>Az [_,_,_] [Ae x2 (.s x0 x1),Cz (.a x2 x1) x0] rT Z (O1 (lM1 (F1 hm)))) (λZ=>Az [_,_,_] [Ae (.s x0 x1) x2,eq1 (.a x2 x1) x0] rT Z (O1 (lM1 (F1 hm))))]at eh
  refine Ax (run_set (Ab rfl (Ab (A7 h9) (A7 h8) (Ij (by exactλZ=>Az [_] [eq1 x0 (.n 0),Ac (.n 1) x0] rT Z (Cc r1)))) rfl)) ?_
  refine Ax (run_set (Ab rfl (Ab (Ab (A7 (i:=9) h9) (A7 (i:=8) h8) (zHK (by exact⟨λZ=>Az [(↑r)] [eq1 x0 (.n 0),Ac (.n 1) x0] rT Z (Cc r1),Jf (zLj λZ=>Az [(↑r),(↑C),(↑l)] [Ac (.n 1073741824) x0,Ac x1 (.n 20),Ac (.a x2 x0) x1,Ac (.n 0) x2] rT Z (Cc hC2) (Cc hr) (cast_nn _))⟩))) (Ab (A7 (i:=0) hA9.b.l0) (A7 (i:=6) hA9.l6) rfl) (Ij (by exactλZ=>Az [(↑R),(↑m)] [eq1 (.s x0 x1) (.n 0),Ae x1 x0] rT Z (F1 hm)))) rfl)) ?_
  rw[ew,eh];refine Ax (Er (v:=zCI ⟨m,l,m+h,l+w⟩) (ds:=bs.map zCI) (k:=kb) (A7 (i:=4) hA9.b.l4) hb (by rw[lq6];exact zOS hbl hsl rfl) ?_) ?_
  ·refine Bg (zJ4 (Aa (a:=[.int (m:Int),.int (l:Int),.int (h:Int),.int (w:Int)]) (A5 (A7 (i:=6) hA9.l6) (A5 (A5 (A7 (i:=7) hA9.l7) (A5 (A5 (A7 (i:=11) rfl) (A5 (A5 (A7 (i:=10) rfl) rfl) rfl)) rfl)) rfl)) ⟨by show 4<=_;exact zN9 hsl rfl,?_,rfl⟩))
   show D.tup _=D.tup [.int (m:Int),.int (l:Int),.int (((m+h:Nat):Int) - m),.int (((l+w:Nat):Int) - l)]
   rw[show((m+h:Nat):Int) - m=h by exact Kl (λZ=>Az [(↑m),(↑h)] [Ae (.s (.a x0 x1) x0) x1] rT Z) (λZ=>Az [(↑m),(↑h)] [Ae x1 (.s (.a x0 x1) x0)] rT Z),show((l+w:Nat):Int) - l=w by exact Kl (λZ=>Az [(↑l),(↑w)] [Ae (.s (.a x0 x1) x0) x1] rT Z) (λZ=>Az [(↑l),(↑w)] [Ae x1 (.s (.a x0 x1) x0)] rT Z)]
  ·have hf2:(σ.set kb (.list (bs.map zCI++[zCI ⟨m,l,m+h,l+w⟩])))[kf]? =some (.list (Kw fr)):=U2 hf hne
   obtain⟨σ',x,e⟩:=zCm (kf:=kf) (l:=l) (m:=m) (h:=h) (w:=w) (fr:=fr) (loc:=Be (Be l9 10 (.int (w:Int))) 11 (.int (h:Int))) hA9.l3 hA9.l6 hA9.l7 rfl rfl rfl rfl hf2 (lM7 (lM5 hC) hC2) (by exact Mr (Ac (.a x1 x2) x0) [Cz x0 x3,Ac (.a x1 x4) x3,Ac x2 x4] rT hC hr w2)
   refine Ax (run_set e) (Aa rfl ⟨rfl,w,h,_,⟨hA9.b.l0,hA9.b.l1,hA9.b.l2,hA9.b.l4⟩,w1,w2,h1,by exact Cd (Ac (.a x1 x2) x0) [Ac x2 x3,eq1 (.a x3 x1) x0] rT h2 (Aq (lM6 hm)),rfl,?_,x.trans (.app _ _),lq3⟩)
   have:=x.len
   rw[lJ4]at this;exact this
 refine Da (b:=decide ((k:Int)<ns.length)) (B8 (A7 (i:=5) hA.l5) (A5 (A5 (A7 (i:=2) hA.b.l2) rfl) (E6 hn (by rw[lq6];exact zAm hnl rfl))) rfl (by rw[lq6];rfl)) (λz=>?_) λz=>?_
 ·have z:=lH3 z;exact Ax (run_set (Ab (A7 (i:=2) hA.b.l2) (A7 (i:=5) hA.l5) (Lx hn (by exact(cast_nn _)) z (by exact lk hnl rfl)))) (Aa rfl (go _ _ hA.u9.u9 l8 rfl))
 ·exact Aa rfl (go _ _ hA.u9 l8 rfl)
noncomputable def zIm:Mn Fl:=(Ag (Af (Af (A9 (A6 3) Ai) Vg) (Ah 6))
 (Ag (Ex (C1 Qk (A6 6) (A6 0)) (Ag (Af (Af (A6 3) (Dh λk=>Af (A6 6) (Q2 k))) (Ah 7))
 (Ag (Af (A8 (.int 1)) (Ah 8))
 (Ag (Gn zLX zMg)
 Xa))) (A8 .next))
 (A8 .next)))
inductive TJ (R C kn kb:Nat)(σ0:C3)(k:Nat)(st':St):Prop
 |mk (fr:List Nat) (bs:List Bn) (kf:Nat) (hB:TB R C kn kb st'.loc) (h3:st'.loc 3=some (.ref kf)) (hx:Cq σ0 st'.sto) (hf:st'.sto[kf]? =some (.list (Kw fr))) (hb:st'.sto[kb]? =some (.list (bs.map zCI))) (hne:kb≠kf) (S:zGG R C fr bs) (hs:k<=fr.sum∨∀j,j<C->at0 fr j=R) (hl:bs.length<=k)
theorem zKv{R C kn kb k:Nat}{ns:List Int}{σ0:C3}{st:St}(hR:R<=20)(hC1:1<=C)(hC:C<=20)(hkb:σ0.length<=kb)(hn:σ0[kn]? =some (.list (ns.map D.int)))(hnl:ns.length<=1000)(hk:k<=399)(J:TJ R C kn kb σ0 k st)(l5:st.loc 5=some (.int (k:Int))):
  W zIm st λfl st'=>fl=.next/\TJ R C kn kb σ0 (k+1) st':=by
 obtain⟨fr,bs,kf,hB,h3,hx,hf,hb,hne,S,hs,hl⟩:=J;obtain⟨loc,σ⟩:=st;have hlen:=S.len;obtain⟨m,em,mm,mle⟩:=zJl (fr:=fr) (λz=>by rw[z]at hlen;simp at hlen;exact An [_] [Ac (.n 1) x0,Cz (.n 0) x0] rT hC1 hlen)
 have memat:∀j,j<C->at0 fr j∈fr:=λj hj=>by
  unfold at0;rw[lA2,lA9 (lF5 hj (lM5 (Eq.symm hlen)))];exact List.getElem_mem _
 unfold zIm;refine Ax (run_set (A5 (A5 (A7 h3) rfl) (zF7 hf em))) ?_
 obtain⟨l,el,hlt,hal,hfirst⟩:=zK6 mm;refine Da (b:=decide ((m:Int)<(R:Int))) (B8 (A7 (i:=6) rfl) (A7 (i:=0) hB.l0) rfl rfl) (λz=>?_) λz=>?_
 ·have z:=lH3 z;refine Ax (run_set (A5 (A7 (i:=3) h3) (Bg (zEZ hf (Aa (A5 (A7 (i:=6) rfl) (zCL hf (lM4.mpr ⟨m,mm,rfl⟩) (by rw[lq6];exact Cp (Ac x0 (.n 1000)) [Ac x1 (.n 20),eq1 x0 x1] rT hC hlen))) ⟨rfl,rfl⟩))))) ?_
  rw[el];refine Ax rfl (Al (zL0 (R:=R) (C:=C) (kn:=kn) (kb:=kb) (kf:=kf) (m:=m) (l:=l) (k:=(k:Int)) (fr:=fr) ⟨⟨hB.l0,hB.l1,hB.l2,hB.l4⟩,h3,l5,rfl,rfl⟩ rfl hf hlen hC (lF5 hlt (lM5 hlen)) hal λr loc' hA' h8 r1 r2 hr=>?_))
  refine(zHj (fr:=fr) (bs:=bs) (ns:=ns) hA' h8 hf hb hne (hx.get hn) hnl (by exact Cp (Ac x0 (.n 400)) [Ac x1 (.n 399),Ac x0 x1] rT hk hl) hlen hC hR r1 r2 (by exact Jf (z))).mono ?_
  rintro fl ⟨l9,σ9⟩ ⟨rfl,w,h,kf',hB9,w1,w2,h1,h2,g3,gl,gs,gf⟩
  refine Aa rfl ⟨rfl,put fr l w (m+h),bs++[⟨m,l,m+h,l+w⟩],kf',hB9,g3,?_,gf,?_,?_,S.step (λj hj=>mle _ (memat j hj)) hfirst (by exact Cd (Ac (.a x1 x2) x0) [Ac (.a x1 x3) x0,Ac x2 x3] rT r2 w2) w1 h1 h2 λj a b=>hr j a (by exact Cd (Ae x2 (.a x0 x1)) [Ac x3 x1,Ae x2 (.a x0 x3)] rT w2 b),?_,by rw[lq7,lC5];exact Cp (Ac (.a x1 (.n 1)) (.a x0 (.n 1))) [Ac x1 x0] rT hl⟩
  ·exact(hx.set hkb).trans gs
  ·rw[lJ5];exact gs.get (Im hb)
  ·have:=(lq2 hb).1
   exact lN0 (lF5 this gl)
  ·have:=zGu (fr:=fr) (l:=l) (w:=w) (m:=m) (h:=h) (by exact Mr (Ac (.a x1 x2) x0) [Cz x0 x3,Ac (.a x1 x4) x3,Ac x2 x4] rT hlen r2 w2) w1 h1 λj a b=>hr j a (by exact Cd (Ae x2 (.a x0 x1)) [Ac x3 x1,Ae x2 (.a x0 x3)] rT w2 b)
   rcases hs with q|q
   ·exact .inl (by exact Ck (Ac (.a x0 (.n 1)) x1) [Ac (.a x2 (.n 1)) x1,Ac x0 x2] rT this q)
   ·have:=q l (lF5 hlt (lM5 hlen))
    exact .inl (X6 λZ=>An [_,_,_,_] [eq1 x0 x1,Ac (.n 1) x2,Ac (.a x1 x2) x3,Cz x0 x3] rT hal h1 h2 this)
 ·have z:=lF8 z;refine Aa rfl (Aa rfl ⟨rfl,fr,bs,kf,⟨hB.l0,hB.l1,hB.l2,hB.l4⟩,h3,hx,hf,hb,hne,S,.inr λj hj=>?_,Nat.le_add_right_of_le hl⟩)
  have h1:=mle _ (memat j hj);have h2:=S.le j hj;exact Nh (Kl (λZ=>Az [_,_,_] [Ae x1 x0,Ac x0 x2,Ac x2 x1] rT Z (lN6.mp z) (Cc h1)) (λZ=>Az [_,_] [Ae x0 x1,Ac x1 x0] rT Z (Cc h2)))
theorem zHZ{R C:Nat}{ns:List Int}{kn:Nat}{st:St}{Q:D->St->Prop}(hR1:1<=R)(hR:R<=20)(hC1:1<=C)(hC:C<=20)(hn:st.sto[kn]? =some (.list (ns.map D.int)))(hnl:ns.length<=1000)
  (hQ:∀bs r σ',Nf R C bs->bs.length<=400->Cq st.sto σ'->σ'[r]? =some (.list (bs.map zCI))->Q (.ref r) ⟨st.loc,σ'⟩):W (G2 [.int (R:Int),.int (C:Int),.ref kn]) st Q:=by
 have hRC:R*C<=400:=lM7 (lL0 hR hC) (by decide)
 refine Bu rfl ?_
 refine Ax (run_set (Ab (st1:=⟨_,st.sto++[.list [.int 0]]⟩) rfl rfl (Ly (k:=st.sto.length) (ds:=[.int 0]) lq3 (by exact zDI (Cc hC1) rfl) (by exact zDH (Cc hC) rfl) (by show 1*_<=_;exact X7 (Ac (.m 1 x0) (.n 16777216)) [Ac x0 (.n 20)] rT hC)))) ?_
 refine Ax rfl (Al (Wb (Aa (A5 (A5 (Ab rfl rfl (En (by rw[Dt (by exact H6 (Ae (.s (.n 0) (.n 1000000)) x0) [Ac (.n 1) x0] rT (Cc hR1)) (by exact zDH (Cc hR) rfl)];rfl))) rfl) (Wi (m:=R*C) (by rw[lI9]) (by exact lk hRC rfl))) ?_)))
 have e0:N2 (C:Int) [D.int 0]=Kw (List.replicate C 0):=by rw[J8];exact So (v:=0)
 rw[e0];have hkb:st.sto.length<=(st.sto++[PO.list [D.int 0]]++[PO.list (Kw (List.replicate C 0))]).length:=by rw[lq8,lq7];exact lI4 _ _
 refine Oq (b:=0) rfl (TJ R C kn (st.sto++[PO.list [D.int 0]]++[PO.list (Kw (List.replicate C 0))]).length st.sto) (λ_ _ _=>trivial) (λk st' hk J=>?_) (λst' J=>?_) ⟨List.replicate C 0,[],_,⟨rfl,rfl,rfl,rfl⟩,rfl,((Cq.app _ _).trans (.app _ _)).trans (.app _ _),(Cq.app _ _).get lq3,lq3,by rw[lq7];exact Nat.succ_ne_self _,zGG.start R C,.inl (lq5 _),lN4 _⟩
 ·obtain⟨fr,bs,kf,hB,h3,hx,hf,hb,hne,S,hs,hl⟩:=J;refine⟨Be st'.loc 5 (.int (k:Int)),rfl,(zKv (st:=⟨Be st'.loc 5 (.int (k:Int)),st'.sto⟩) hR hC1 hC hkb hn hnl (lG8 (lF5 hk hRC)) ⟨fr,bs,kf,⟨hB.l0,hB.l1,hB.l2,hB.l4⟩,h3,hx,hf,hb,hne,S,hs,hl⟩ rfl).mono ?_⟩
  rintro fl st2 ⟨rfl,J2⟩
  exact J2
 ·obtain⟨fr,bs,kf,hB,h3,hx,hf,hb,hne,S,hs,hl⟩:=J;have full:∀j,j<C->at0 fr j=R:=by
   rcases hs with q|q
   ·have:=Vi (R:=R) (fr:=fr) (by rw[S.len];exact S.le) (by rw[S.len];exact q)
    rw[S.len]at this;exact this
   ·exact q
  exact El (G5 (A7 hB.l4)) (hQ bs _ st'.sto (S.full full) (lM7 hl hRC) hx hb)
end
section
open Builtin.Str
theorem zOQ(h:j<(Builtin.Range.rangeSize 2 n 2).toNat):2+(j:Int)*2<n:=by
 unfold Builtin.Range.rangeSize at h;simp only[show(2:Int)>0 by decide,lO4]at h
 split at h
 ·lia
 ·simp at h
theorem zEQ(n:Nat)(h:n<=63):(Builtin.Range.rangeSize 2 n 2).toNat<=31:=by
 unfold Builtin.Range.rangeSize;simp only[show(2:Int)>0 by decide,lO4]
 split
 ·lia
 ·simp
structure X4 (x:Str):Prop where
 ok:(cl x).all Mv=true
 len:x.length<=200
 good:I6 (cl x)=true
theorem zL2:∀n:Fin 97,(((cl (sO (toString (n.val:Int)))).all Mv&&I6 (cl (sO (toString (n.val:Int)))))&&(Nat.ble (sO (toString (n.val:Int))).length 2&&Nat.blt (n.val:Int).natAbs.log2 1920))=true:=by decide+kernel
theorem zHc(h0:0<=n)(h1:n<97):∃y:Str,(∀S,Q8 [.int n] S=.ok (.str y) S)/\X4 y:=by
 have:=zL2 ⟨n.toNat,by exact Jf (lE8 (Int.le_of_eq (D5 (h0))) h1)⟩
 rw[show((n.toNat:Nat):Int)=n by exact Kl (λZ=>Az [_,_] [Ae x1 x0,Ac x0 x1] rT Z (Hy _)) (λZ=>Az [_,_] [Ae x0 x1,eq1 x1 x0] rT Z (D5 (h0)))]at this
 obtain⟨a,bc⟩:=lD1.mp this;obtain⟨b,c⟩:=lD1.mp bc;obtain⟨a1,a2⟩:=lD1.mp a;exact⟨sO (toString n),λS=>C8 (Nat.blt_eq.mp c),a1,lM7 (Nat.ble_eq.mp b) (by decide),a2⟩
noncomputable def Cn.bn (c:Cn):Bn:=⟨c.t,c.l,c.b,c.r⟩
structure zM9 (R C:Nat)(cs:List Cn):Prop where
 til:Nf R C (cs.map Cn.bn)
 tx:∀c,c∈cs->X4 c.x
 len:cs.length<=400
noncomputable def zIb:Mn Fl:=(Ag (Af (Af (A9 (Ad E1 (A6 7) (A8 (.int 97))) Ai) Q8) (Ah 9))
 (Ag (Ex (C1 Qk (Ad B0 (A8 (.int 3)) (Ad Ey (A8 (.int 2)) (A6 7))) (Af (A9 (A6 0) Ai) Cf)) (Ag (Af (Af (A9 (Ad Aj (A6 0) (Ad B0 (A8 (.int 3)) (Ad Ey (A8 (.int 2)) (A6 7)))) Ai) H7) (Ah 9))
 (A8 .next)) (A8 .next))
 (Ag (Af (Af (A6 6) (Dh λk=>Af (Ad B0 (A6 8) (D6 (A9 (A6 9) Ai))) (Bt k))) Ct)
 (A8 .next))))
inductive zMO (ns:List Int)(kc:Nat)(σ:C3)(bs:List Bn)(st:St):Prop
 |mk (cs:List Cn) (hc:cs.map Cn.bn=bs) (tx:∀c,c∈cs->X4 c.x) (l0:st.loc 0=some (.scr ns)) (l6:st.loc 6=some (.ref kc)) (x:Cq σ st.sto) (e:st.sto[kc]? =some (.list (cs.map Ce)))
theorem zHs{ns:List Int}{kc i:Nat}{b:Bn}{bs:List Bn}{σ0:C3}{st:St}(hn:ns.length<=63)(hi:i<=400)(J:zMO ns kc σ0 bs st)(hbs:bs.length<=400)(hkc:σ0.length<=kc):
  W zIb ⟨Be (Be st.loc 7 (.int (i:Int))) 8 (zCI b),st.sto⟩ λfl st'=>fl=.next/\zMO ns kc σ0 (bs++[b]) st':=by
 obtain⟨cs,hc,tx,l0,l6,hx,e⟩:=J;subst hc;rw[lq6]at hbs;have hm:=C6 (a:=(i:Int)) (b:=97) (by decide);obtain⟨y,ey,y1⟩:=zHc hm.1 hm.2;refine Ax (run_set (A5 (A5 (Ab (A7 (i:=7) rfl) rfl (Ij (by decide))) rfl) (ey _))) ?_
 have fin:∀(x:Str) (l9:Bm) (j:C3),X4 x->l9 0=some (.scr ns)->l9 6=some (.ref kc)->l9 8=some (zCI b)->l9 9=some (.str x)->
   W (Ag (Af (Af (A6 6) (Dh λk=>Af (Ad B0 (A6 8) (D6 (A9 (A6 9) Ai))) (Bt k))) Ct) (A8 .next)) ⟨l9,st.sto++j⟩ λfl st'=>fl=.next/\zMO ns kc σ0 (cs.map Cn.bn++[b]) st':=λx l9 j x1 a0 a6 a8 a9=>by
  refine Ax (Er (v:=Ce ⟨b.t,b.l,b.b,b.r,x⟩) (A7 a6) ((Cq.app _ _).get e) (by rw[lq6];exact lk hbs rfl) (Ab (A7 a8) (Kj (ds:=[.str x]) (A5 (A7 a9) rfl) (by decide:1<=sizeLine)) (Bg (zBv.mpr ⟨⟨by simp,by simp,(by decide:4+1<=sizeLine)⟩,rfl,rfl⟩)))) (Aa rfl ⟨rfl,cs++[⟨b.t,b.l,b.b,b.r,x⟩],lJ5,λc m=>?_,a0,a6,(hx.trans (.app _ _)).set hkc,?_⟩)
  ·rcases lJ6.mp m with m|m
   ·exact tx c m
   ·rw[lq0 m];exact x1
  ·show(_:C3)[kc]? =_
   rw[Im ((Cq.app _ _).get e),lJ5];rfl
 have h3:(0:Int)<=3+2*(i:Int)/\3+2*(i:Int)<2 ^ 63:=by exact⟨H6 (Ac (.n 0) (.a (.n 3) (.m 2 x0))) [Qe 2 (.n 0) x0] rT (cast_nn _),H6 (Ae (.a (.n 3) (.m 2 x0)) (.n 9223372036854775808)) [Qe 2 x0 (.n 400)] rT (Cc hi)⟩
 refine Da (b:=decide (3+2*(i:Int)<ns.length)) (B8 (Ab rfl (Ab rfl (A7 (i:=7) rfl) (En rfl)) rfl) (A5 (A5 (A7 (i:=0) l0) rfl) (C8 (zAm hn rfl))) rfl rfl) (λz=>?_) λz=>?_
 ·have z:=lH3 z;have hlt:(3+2*(i:Int)).toNat<ns.length:=by exact Jf (lE8 (Int.le_of_eq (D5 (h3.1))) z)
  exact Al (Wb (Wb (Aa (A5 (Ab (A7 (i:=0) l0) (Ab rfl (Ab rfl (A7 (i:=7) rfl) (En rfl)) rfl) (Uy h3 (lA9 hlt))) rfl) (zJr λx j h1 h2 h3=>Aa rfl (Aa rfl (fin x _ j ⟨h1,h2,h3⟩ l0 l6 rfl rfl))))))
 ·refine Aa rfl ?_
  have:=fin y (Be (Be (Be st.loc 7 (.int (i:Int))) 8 (zCI b)) 9 (.str y)) [] y1 l0 l6 rfl rfl
  rw[lJ0]at this;exact this
theorem zBw{c:Cn}{st:St}:Ff [Ce c] st=.ok (.tup [.int (c.t:Int),.int (c.l:Int)]) st:=rfl
theorem Vw{R C:Nat}{ns vs:List Int}{kn:Nat}{σ:C3}{loc:Bm}{Q:Fl->St->Prop}(hn:ns.length<=63)(hR1:1<=R)(hR:R<=20)(hC1:1<=C)(hC:C<=20)(l0:loc 0=some (.scr ns))(l1:loc 1=some (.int (R:Int)))(l2:loc 2=some (.int (C:Int)))(l4:loc 4=some (.ref kn))(hk:σ[kn]? =some (.list (vs.map D.int)))(hvl:vs.length<=1000)
  (hQ:∀cs r l σ',zM9 R C cs->Cq σ σ'->σ'[r]? =some (.list (cs.map Ce))->Q (.ret (.ref r)) ⟨l,σ'⟩):
  W (Ag (Af (Af (A9 (A6 1) (A9 (A6 2) (A9 (A6 4) Ai))) G2) (Ah 5))
 (Ag (Af (Cs Ai) (Ah 6))
 (Ag (Af (Af (A9 (A6 5) Ai) Ve) λsrc=>By (Jg 2 (Bl (As 7) (Bl (As 8) Fz))) src.g zIb src.ds)
 (Ag (Ca (Af (A9 (A6 6) Ai) (E4 Ff)))
 (A8 .next))))) ⟨loc,σ⟩ Q:=by
 refine Al (Wb (Wb (Aa (A5 (A7 l1) (A5 (A5 (A7 l2) (A5 (A5 (A7 l4) rfl) rfl)) rfl)) (zHZ hR1 hR hC1 hC hk hvl λbs r σ1 T hbl x1 hr=>Aa rfl ?_))))
 refine Ax (st1:=⟨Be (Be loc 5 (.ref r)) 6 (.ref σ1.length),σ1++[.list []]⟩) rfl (Al (Wb (Wb (Aa (A5 (A7 (i:=5) rfl) rfl) (zI0 ((Cq.app _ _).get hr) ?_)))))
 rw[Yj];refine E2 (λdn=>zMO ns σ1.length σ1 (dn.map (·.1))) (λ_ _ J=>by obtain⟨_,_,_,_,_,x,_⟩:=J;exact x.get hr) (λdn p rest st' he J=>?_) (λst' J=>?_) ⟨[],rfl,λ_ m=>(nomatch m),l0,rfl,.app _ _,lq3⟩
 ·have hp:p.2<bs.length:=List.snd_lt_of_mem_zipIdx (by rw[he];exact lC6 _ lq1)
  have hd:(dn.map (·.1)).length<=400:=by
   have:=lO2 List.length he
   rw[List.length_zipIdx,lq7]at this;rw[lq6];lia
  refine⟨Be (Be st'.loc 7 (.int (p.2:Int))) 8 (zCI p.1),rfl,(zHs hn (lM7 (lM6 hp) hbl) J hd (lN4 _)).mono ?_⟩
  rintro fl st2 ⟨rfl,J2⟩
  show zMO _ _ _ (List.map _ _) _
  rw[lJ5];exact J2
 ·obtain⟨cs,hc,htx,a0,a6,x2,e⟩:=J;rw[List.zipIdx_map_fst]at hc;subst hc;rw[lq6]at hbl;refine Al (Wb (Wb (Aa (A5 (A7 a6) rfl) (Wt (λ_ _=>zBw) e (.refl _) hbl (((lG6 (f:=Cn.bn)).mp T.ord).imp λ{a b} h=>h) (λc m=>?_) (Aa rfl (hQ cs _ _ _ ⟨T,htx,hbl⟩ ((x1.trans x2).trans (.app _ _)) lq3))))))
  have hq1:=(T.good c.bn (lM4.mpr ⟨c,m,rfl⟩)).2;show c.bn.l<1000
  lia
theorem zGI{R C:Nat}{ns:List Int}{gr:Bool}{st:St}{Q:D->St->Prop}(hn:ns.length<=63)(hR1:1<=R)(hR:R<=20)(hC1:1<=C)(hC:C<=20)
  (hQ:∀cs r σ',zM9 R C cs->Cq st.sto σ'->σ'[r]? =some (.list (cs.map Ce))->Q (.ref r) ⟨st.loc,σ'⟩):W (Ga [.scr ns,.int (R:Int),.int (C:Int),.bool gr]) st Q:=by
 have hsl:(1000:Nat)<=sizeLine:=by decide
 have hRC:R*C<=400:=lM7 (lL0 hR hC) (by decide)
 refine Bu rfl ?_
 refine Al (Wb (Wb (Aa (a:=⟨Ez 2 2 (Builtin.Range.rangeSize 2 ((min ns.length 42:Nat):Int) 2).toNat,λ_=>True⟩) (A5 (A5 rfl (A5 (A5 (A5 (A5 (A5 rfl (Bg (zLa.mpr ⟨by exact zAm hn rfl,rfl,rfl⟩))) rfl) rfl) rfl) rfl)) (Bg (zD8.mpr ⟨?_,?_,rfl⟩))) ?_)))
 ·show(Tz 2&&Tz (min (ns.length:Int) 42)&&(decide (1<=(2:Int))&&decide ((2:Int)<1000)))=true
  rw[lD1,lD1];exact⟨⟨by decide,Dl.mpr ⟨by lia,by lia⟩⟩,by decide⟩
 ·show(⟨Ez 2 2 (Builtin.Range.rangeSize 2 (min (ns.length:Int) 42) 2).toNat,λ_=>True⟩:Js)=_
  rw[show min (ns.length:Int) 42=((min ns.length 42:Nat):Int)by lia]
 have hrl:=zEQ (min ns.length 42) (by lia);refine Aa (Gl (i:=7) (e:=λ(j:Nat)=>D.int (2+(j:Int)*2)) (xs:=List.range (Builtin.Range.rangeSize 2 ((min ns.length 42:Nat):Int) 2).toNat) (λj=>D.int (ns.getD (2+(j:Int)*2).toNat 0)) (λl=>l 0=some (.scr ns)) (by rw[lG4];exact lk hrl rfl) trivial rfl (λ_ _ h=>h) λj m l hA=>?_) (Aa rfl ?_)
 ·have h2:=zOQ (lK9.mp m);have hlt:(2+(j:Int)*2).toNat<ns.length:=by lia
  exact Ab (A7 hA) rfl (Uy (by lia) (by rw[lA2,lA9 hlt];rfl))
 ·rw[show(List.range (Builtin.Range.rangeSize 2 ((min ns.length 42:Nat):Int) 2).toNat).map (λj:Nat=>D.int (ns.getD (2+(j:Int)*2).toNat 0))=((List.range (Builtin.Range.rangeSize 2 ((min ns.length 42:Nat):Int) 2).toNat).map λj:Nat=>ns.getD (2+(j:Int)*2).toNat 0).map D.int by rw[lM3];rfl]
  have hvl:((List.range (Builtin.Range.rangeSize 2 ((min ns.length 42:Nat):Int) 2).toNat).map λj:Nat=>ns.getD (2+(j:Int)*2).toNat 0).length<=31:=by rw[lq6,lG4];exact hrl
  generalize(List.range (Builtin.Range.rangeSize 2 ((min ns.length 42:Nat):Int) 2).toNat).map (λj:Nat=>ns.getD (2+(j:Int)*2).toNat 0)=vs at hvl
  cases gr with
  |true=>
   refine Da (b:=true) rfl (λ_=>?_) λz=>by cases z
   refine Ax (run_set (Ab (a:=.ref (st.sto++[PO.list (vs.map D.int)]).length) (st1:=⟨_,st.sto++[PO.list (vs.map D.int)]++[.list [.int 0]]⟩) rfl (Ab rfl rfl (En (a:=(R:Int)) (b:=(C:Int)) (by rw[Dt (by exact H6 (Ae (.s (.n 0) (.n 1000000)) x0) [Ac (.n 1) x0] rT (Cc hR1)) (by exact zDH (Cc hR) rfl)];rfl))) (Ly (ds:=[.int 0]) lq3 (by rw[←lI9];exact(cast_nn _)) (by rw[←lI9];exact zDH (Cc hRC) rfl) (by rw[←lI9,lG2];show 1*_<=_;exact X7 (Ac (.m 1 x0) (.n 16777216)) [Ac x0 (.n 400)] rT hRC)))) (Aa rfl ?_)
   rw[←lI9];refine Vw (vs:=(List.replicate (R*C) 0).map λ(n:Nat)=>(n:Int)) hn hR1 hR hC1 hC rfl rfl rfl rfl (by
    show(st.sto++[PO.list (vs.map D.int)]++[PO.list [D.int 0]]++[PO.list (N2 ((R*C:Nat):Int) [D.int 0])])[(st.sto++[PO.list (vs.map D.int)]++[PO.list [D.int 0]]).length]? =_
    rw[J8,lq3];congr 2
    exact So (v:=0)) (by rw[lq6,lC4];exact lk hRC rfl) λcs r l σ2 ok x2 hr=>?_
   exact hQ cs r σ2 ok ((((Cq.app _ _).trans (.app _ _)).trans (.app _ _)).trans x2) hr
  |false=>
   refine Da (b:=false) rfl (λz=>by cases z) λ_=>Aa rfl ?_
   refine Vw (vs:=vs) hn hR1 hR hC1 hC rfl rfl rfl rfl lq3 (lk hvl rfl) λcs r l σ2 ok x2 hr=>?_
   exact hQ cs r σ2 ok ((Cq.app _ _).trans x2) hr
end
theorem zCh{α:Type}{R:α->α->Prop}{l:List α}(h:l.Pairwise R){a b:α}(ma:a∈l)(mb:b∈l):a=b∨R a b∨R b a:=by
 induction l with
 |nil=>nomatch ma
 |cons x l ih=>
  rw[lF2]at h;rcases lL5.mp ma with e1|ma'<;>rcases lL5.mp mb with e2|mb'
  ·exact .inl (e1.trans e2.symm)
  ·exact .inr (.inl (e1▸h.1 b mb'))
  ·exact .inr (.inr (e2▸h.1 a ma'))
  ·exact ih h.2 ma' mb'
noncomputable def zCT (Y:Nat->Nat)(R:Nat):Prop:=∀i j,i<j->j<=R->Y i+2<=Y j
theorem zCT.lt(h:zCT Y R)(hi:i<=R)(hy:Y i<Y j):i<j:=by
 rcases lH1 i j with q|q|q
 ·exact q
 ·rw[q]at hy;exact absurd hy (lL7 _)
 ·have:=h j i q hi;exact zE5 λZ=>An [_,_] [Ae x0 x1,Ac (.a x1 (.n 2)) x0] rT hy this
theorem zCT.le(h:zCT Y R)(hi:i<=j)(hj:j<=R):Y i<=Y j:=by
 rcases lF6 hi with q|q
 ·have:=h i j q hj;exact Cp (Ac x0 x1) [Ac (.a x0 (.n 2)) x1] rT this
 ·rw[q];exact lN4 _
structure Jp (R C:Nat)(bs:List Bn)(Y X:Nat->Nat):Prop where
 til:Nf R C bs
 ly:zCT Y R
 lx:zCT X C
section
variable {R C:Nat}{bs:List Bn}{Y X:Nat->Nat}
noncomputable def qB (Y X:Nat->Nat)(b:Bn):Qb:=⟨Y b.t,X b.l,Y b.b,X b.r⟩
structure zB4 (Y X:Nat->Nat)(b:Bn)(y x:Nat):Prop where
 n:Y b.t<y
 s:y<Y b.b
 w:X b.l<x
 e:x<X b.r
structure zOn (a b:Bn):Prop where
 h1:a.t<b.b
 h2:b.t<a.b
 h3:a.l<b.r
 h4:b.l<a.r
theorem Jp.meet(N:Jp R C bs Y X){a b:Bn}(ma:a∈bs)(mb:b∈bs)(h:zOn a b):a=b:=by
 have ga:=N.til.good a ma;have gb:=N.til.good b mb;have i1:a.In (max a.t b.t) (max a.l b.l):=⟨⟨Nat.le_max_left _ _,Nat.max_lt.mpr ⟨ga.1.1,h.h2⟩⟩,Nat.le_max_left _ _,Nat.max_lt.mpr ⟨ga.2.1,h.h4⟩⟩
 have i2:b.In (max a.t b.t) (max a.l b.l):=⟨⟨Nat.le_max_right _ _,Nat.max_lt.mpr ⟨h.h1,gb.1.1⟩⟩,Nat.le_max_right _ _,Nat.max_lt.mpr ⟨h.h3,gb.2.1⟩⟩
 rcases zCh N.til.dis ma mb with q|q|q
 ·exact q
 ·exact absurd i2 (q _ _ i1)
 ·exact absurd i1 (q _ _ i2)
structure Jp.Of (R C:Nat)(Y X:Nat->Nat)(a:Bn):Prop where
 tb:a.t<a.b
 bR:a.b<=R
 lr:a.l<a.r
 rC:a.r<=C
 ny:Y a.t+2<=Y a.b
 nx:X a.l+2<=X a.r
theorem Jp.of(N:Jp R C bs Y X)(ma:a∈bs):Jp.Of R C Y X a:=
 let g:=N.til.good a ma
 ⟨g.1.1,g.1.2,g.2.1,g.2.2,N.ly _ _ g.1.1 g.1.2,N.lx _ _ g.2.1 g.2.2⟩
theorem Jp.one(N:Jp R C bs Y X)(ma:a∈bs)(mb:b∈bs)(ha:zB4 Y X a y x)(hb:zB4 Y X b y x):a=b:=
 let ga:=N.of ma
 let gb:=N.of mb
 N.meet ma mb ⟨N.ly.lt (lM7 (lM6 ga.tb) ga.bR) (lM9 ha.n hb.s),N.ly.lt (lM7 (lM6 gb.tb) gb.bR) (lM9 hb.n ha.s),N.lx.lt (lM7 (lM6 ga.lr) ga.rC) (lM9 ha.w hb.e),N.lx.lt (lM7 (lM6 gb.lr) gb.rC) (lM9 hb.w ha.e)⟩
theorem Jp.rowOut(N:Jp R C bs Y X)(ma:a∈bs)(mb:b∈bs)(hy:y=Y a.t∨y=Y a.b)(h1:X a.l<=x)(h2:x<=X a.r):¬zB4 Y X b y x:=λhb=>by
 have ga:=N.of ma;have gb:=N.of mb;have c1:a.l<b.r:=N.lx.lt (by have hq1:=ga.lr;have hq2:=ga.rC;exact lM7 (lM6 hq1) hq2) (lF3 h1 hb.e)
 have c2:b.l<a.r:=N.lx.lt (by have hq3:=gb.lr;have hq4:=gb.rC;exact lM7 (lM6 hq3) hq4) (lF5 hb.w h2)
 rcases hy with e|e
 ·subst e;have r1:=N.ly.lt (by have hq5:=gb.tb;have hq6:=gb.bR;exact lM7 (lM6 hq5) hq6) hb.n
  have r2:=N.ly.lt (by have hq7:=ga.tb;have hq8:=ga.bR;exact lM7 (lM6 hq7) hq8) hb.s
  have:=N.meet ma mb ⟨r2,by have:=ga.tb;exact lM9 r1 this,c1,c2⟩
  rw[this]at r1;exact absurd r1 (lL7 _)
 ·subst e;have r1:=N.ly.lt (by have hq9:=gb.tb;have hq10:=gb.bR;exact lM7 (lM6 hq9) hq10) hb.n
  have r2:=N.ly.lt ga.bR hb.s;have:=N.meet ma mb ⟨by have:=ga.tb;exact lM9 this r2,r1,c1,c2⟩
  rw[this]at r2;exact absurd r2 (lL7 _)
theorem Jp.colOut(N:Jp R C bs Y X)(ma:a∈bs)(mb:b∈bs)(hx:x=X a.l∨x=X a.r)(h1:Y a.t<=y)(h2:y<=Y a.b):¬zB4 Y X b y x:=λhb=>by
 have ga:=N.of ma;have gb:=N.of mb;have c1:a.t<b.b:=N.ly.lt (by have hq1:=ga.tb;have hq2:=ga.bR;exact lM7 (lM6 hq1) hq2) (lF3 h1 hb.s)
 have c2:b.t<a.b:=N.ly.lt (by have hq3:=gb.tb;have hq4:=gb.bR;exact lM7 (lM6 hq3) hq4) (lF5 hb.n h2)
 rcases hx with e|e
 ·subst e;have r1:=N.lx.lt (by have hq5:=gb.lr;have hq6:=gb.rC;exact lM7 (lM6 hq5) hq6) hb.w
  have r2:=N.lx.lt (by have hq7:=ga.lr;have hq8:=ga.rC;exact lM7 (lM6 hq7) hq8) hb.e
  have:=N.meet ma mb ⟨c1,c2,r2,by have:=ga.lr;exact lM9 r1 this⟩
  rw[this]at r1;exact absurd r1 (lL7 _)
 ·subst e;have r1:=N.lx.lt (by have hq9:=gb.lr;have hq10:=gb.rC;exact lM7 (lM6 hq9) hq10) hb.w
  have r2:=N.lx.lt ga.rC hb.e;have:=N.meet ma mb ⟨c1,c2,by have:=ga.lr;exact lM9 this r2,r1⟩
  rw[this]at r2;exact absurd r2 (lL7 _)
theorem Jp.cross(N:Jp R C bs Y X)(ma:a∈bs)(mb:b∈bs)(h:Uf (qB Y X a) y x)(v:X5 (qB Y X b) y x):False:=by
 have ga:=N.of ma;have gb:=N.of mb;have h1:(y=Y a.t∨y=Y a.b)/\X a.l<x/\x<X a.r:=h
 have v1:(x=X b.l∨x=X b.r)/\Y b.t<y/\y<Y b.b:=v
 have bt:b.t<=R:=by have hq1:=gb.tb;have hq2:=gb.bR;exact lM7 (lM6 hq1) hq2
 have al:a.l<=C:=by have hq3:=ga.lr;have hq4:=ga.rC;exact lM7 (lM6 hq3) hq4
 have at':a.t<=R:=by have hq5:=ga.tb;have hq6:=ga.bR;exact lM7 (lM6 hq5) hq6
 have bl:b.l<=C:=by have hq7:=gb.lr;have hq8:=gb.rC;exact lM7 (lM6 hq7) hq8
 have k1:∃i,(i=a.t∨i=a.b)/\b.t<i/\i<b.b:=by
  rcases h1.1 with e|e
  ·exact⟨a.t,.inl rfl,N.ly.lt bt (e▸v1.2.1),N.ly.lt at' (e▸v1.2.2)⟩
  ·exact⟨a.b,.inr rfl,N.ly.lt bt (e▸v1.2.1),N.ly.lt ga.bR (e▸v1.2.2)⟩
 have k2:∃j,(j=b.l∨j=b.r)/\a.l<j/\j<a.r:=by
  rcases v1.1 with e|e
  ·exact⟨b.l,.inl rfl,N.lx.lt al (e▸h1.2.1),N.lx.lt bl (e▸h1.2.2)⟩
  ·exact⟨b.r,.inr rfl,N.lx.lt al (e▸h1.2.1),N.lx.lt gb.rC (e▸h1.2.2)⟩
 obtain⟨i,hi,i1,i2⟩:=k1;obtain⟨j,hj,j1,j2⟩:=k2;have hq9:=ga.tb;have hq10:=ga.lr;have hq11:=gb.tb;have:=gb.lr
 have e:=N.meet ma mb ⟨by exact Or.elim h1.1 (λhd1=>Or.elim v1.1 (λhd2=>Or.elim hi (λhd3=>lF3 (lM5 (Eq.symm hd3)) i2) (λhd3=>Cd (Ae x0 x1) [Ae x2 x1,Ae x0 x3,Cz x2 x3] rT i2 hq9 hd3)) (λhd2=>Or.elim hi (λhd4=>lF3 (lM5 (Eq.symm hd4)) i2) (λhd4=>Cd (Ae x0 x1) [Ae x2 x1,Ae x0 x3,Cz x2 x3] rT i2 hq9 hd4))) (λhd1=>Or.elim v1.1 (λhd5=>Or.elim hi (λhd6=>lF3 (lM5 (Eq.symm hd6)) i2) (λhd6=>Cd (Ae x0 x1) [Ae x2 x1,Ae x0 x3,Cz x2 x3] rT i2 hq9 hd6)) (λhd5=>Or.elim hi (λhd7=>lF3 (lM5 (Eq.symm hd7)) i2) (λhd7=>Cd (Ae x0 x1) [Ae x2 x1,Ae x0 x3,Cz x2 x3] rT i2 hq9 hd7))),by exact Or.elim h1.1 (λhd8=>Or.elim v1.1 (λhd9=>Or.elim hi (λhd10=>Cd (Ae x0 x1) [Ae x0 x2,Ae x3 x1,eq1 x2 x3] rT i1 hq9 hd10) (λhd10=>lF5 i1 (lM5 hd10))) (λhd9=>Or.elim hi (λhd11=>Cd (Ae x0 x1) [Ae x0 x2,Ae x3 x1,eq1 x2 x3] rT i1 hq9 hd11) (λhd11=>lF5 i1 (lM5 hd11)))) (λhd8=>Or.elim v1.1 (λhd12=>Or.elim hi (λhd13=>Cd (Ae x0 x1) [Ae x0 x2,Ae x3 x1,eq1 x2 x3] rT i1 hq9 hd13) (λhd13=>lF5 i1 (lM5 hd13))) (λhd12=>Or.elim hi (λhd14=>Cd (Ae x0 x1) [Ae x0 x2,Ae x3 x1,eq1 x2 x3] rT i1 hq9 hd14) (λhd14=>lF5 i1 (lM5 hd14)))),by exact Or.elim h1.1 (λhd201=>Or.elim v1.1 (λhd202=>Or.elim hj (λhd204=>Cd (Ae x0 x1) [Ae x0 x2,Ae x3 x1,eq1 x2 x3] rT j1 this hd204) (λhd204=>lF5 j1 (lM5 hd204))) (λhd202=>Or.elim hj (λhd206=>Cd (Ae x0 x1) [Ae x0 x2,Ae x3 x1,eq1 x2 x3] rT j1 this hd206) (λhd206=>lF5 j1 (lM5 hd206)))) (λhd201=>Or.elim v1.1 (λhd207=>Or.elim hj (λhd209=>Cd (Ae x0 x1) [Ae x0 x2,Ae x3 x1,eq1 x2 x3] rT j1 this hd209) (λhd209=>lF5 j1 (lM5 hd209))) (λhd207=>Or.elim hj (λhd211=>Cd (Ae x0 x1) [Ae x0 x2,Ae x3 x1,eq1 x2 x3] rT j1 this hd211) (λhd211=>lF5 j1 (lM5 hd211)))),by exact Or.elim h1.1 (λhd212=>Or.elim v1.1 (λhd213=>Or.elim hj (λhd215=>lF3 (lM5 (Eq.symm hd215)) j2) (λhd215=>Cd (Ae x0 x1) [Ae x2 x1,Ae x0 x3,Cz x2 x3] rT j2 this hd215)) (λhd213=>Or.elim hj (λhd217=>lF3 (lM5 (Eq.symm hd217)) j2) (λhd217=>Cd (Ae x0 x1) [Ae x2 x1,Ae x0 x3,Cz x2 x3] rT j2 this hd217))) (λhd212=>Or.elim v1.1 (λhd218=>Or.elim hj (λhd220=>lF3 (lM5 (Eq.symm hd220)) j2) (λhd220=>Cd (Ae x0 x1) [Ae x2 x1,Ae x0 x3,Cz x2 x3] rT j2 this hd220)) (λhd218=>Or.elim hj (λhd222=>lF3 (lM5 (Eq.symm hd222)) j2) (λhd222=>Cd (Ae x0 x1) [Ae x2 x1,Ae x0 x3,Cz x2 x3] rT j2 this hd222)))⟩
 subst e;exact Or.elim h1.1 (λhd223=>An [_,_] [Ae x1 x0,eq1 x0 x1] rT v1.2.1 hd223) (λhd223=>An [_,_] [Ae x0 x1,Cz x0 x1] rT v1.2.2 hd223)
open Classical in
noncomputable def zBx (bs:List Bn)(Y X:Nat->Nat)(y x:Nat):Nat:=if∃b,b∈bs/\zFr (qB Y X b) y x then 43 else if∃b,b∈bs/\Uf (qB Y X b) y x then 45 else if∃b,b∈bs/\X5 (qB Y X b) y x then 124 else 32
theorem Jp.noK(N:Jp R C bs Y X)(h:(i<R/\Y i<y/\y<Y (i+1))∨(i<C/\X i<x/\x<X (i+1))):¬∃b,b∈bs/\zFr (qB Y X b) y x:=λ⟨b,mb,hb⟩=>by
 have gb:=N.of mb;have hb:(y=Y b.t∨y=Y b.b)/\(x=X b.l∨x=X b.r):=hb
 have go:∀{Y:Nat->Nat}{R k:Nat},zCT Y R->i<R->k<=R->Y i<Y k->Y k<Y (i+1)->False:=λL hi hk h1 h2=>by
  have a:=L.lt (lM6 hi) h1;have b:=L.lt hk h2;exact An [_,_] [Ae x0 x1,Ae x1 (.a x0 (.n 1))] rT a b
 have hq1:=gb.tb;have hq2:=gb.bR;have hq3:=gb.lr;have:=gb.rC
 rcases h with⟨hi,h1,h2⟩|⟨hi,h1,h2⟩
 ·rcases hb.1 with e|e<;>subst e
  ·exact go N.ly hi (lM7 (lM6 hq1) hq2) h1 h2
  ·exact go N.ly hi (hq2) h1 h2
 ·rcases hb.2 with e|e<;>subst e
  ·exact go N.lx hi (lM7 (lM6 hq3) this) h1 h2
  ·exact go N.lx hi (this) h1 h2
structure Sf (bs:List Bn)(Y X:Nat->Nat)(tx:Bn->Nat->Nat->Nat)(B:Bo):Prop where
 out:∀y x,(∀b,b∈bs->¬zB4 Y X b y x)->B y x=zBx bs Y X y x
 ins:∀b,b∈bs->∀y x,zB4 Y X b y x->B y x=if Y b.t+2<=y/\X b.l+2<=x then tx b (y - (Y b.t+2)) (x - (X b.l+2))else 32
variable {tx:Bn->Nat->Nat->Nat}{B:Bo}
theorem Sf.corner(N:Jp R C bs Y X)(p:Sf bs Y X tx B)(m:b∈bs)(hy:y=Y b.t∨y=Y b.b)(hx:x=X b.l∨x=X b.r):B y x=43:=by
 have g:=N.of m;have:=g.nx
 rw[p.out y x λd md=>N.rowOut m md hy (by exact Or.elim hy (λhd248=>Or.elim hx (λhd249=>lM5 (Eq.symm hd249)) (λhd249=>Ck (Ac x1 x0) [Ac (.a x1 (.n 2)) x2,Cz x0 x2] rT this hd249)) (λhd248=>Or.elim hx (λhd250=>lM5 (Eq.symm hd250)) (λhd250=>Ck (Ac x1 x0) [Ac (.a x1 (.n 2)) x2,Cz x0 x2] rT this hd250))) (by exact Or.elim hy (λhd251=>Or.elim hx (λhd252=>Ck (Ac x0 x1) [Ac (.a x2 (.n 2)) x1,eq1 x0 x2] rT this hd252) (λhd252=>lM5 hd252)) (λhd251=>Or.elim hx (λhd253=>Ck (Ac x0 x1) [Ac (.a x2 (.n 2)) x1,eq1 x0 x2] rT this hd253) (λhd253=>lM5 hd253)))]
 exact lO6 ⟨b,m,hy,hx⟩
theorem Sf.top(N:Jp R C bs Y X)(p:Sf bs Y X tx B)(m:b∈bs)(hy:y=Y b.t∨y=Y b.b):B y (X b.l+1)=45:=by
 have g:=N.of m;have h1:=g.nx;have h2:=N.lx b.l (b.l+1) (lI5 _) (lM7 g.lr g.rC);rw[p.out y _ λd md=>N.rowOut m md hy (by exact lI4 _ _) (by exact Cp (Ac (.a x0 (.n 1)) x1) [Ac (.a x0 (.n 2)) x1] rT h1)]
 refine(lO5 (N.noK (i:=b.l) (.inr ⟨lF5 g.lr g.rC,by exact lI5 _,by exact Cp (Ae (.a x0 (.n 1)) x1) [Ac (.a x0 (.n 2)) x1] rT h2⟩))).trans (lO6 ⟨b,m,hy,?_⟩)
 show X b.l<X b.l+1/\X b.l+1<X b.r
 exact⟨lI5 _,Cp (Ae (.a x0 (.n 1)) x1) [Ac (.a x0 (.n 2)) x1] rT h1⟩
theorem Sf.side(N:Jp R C bs Y X)(p:Sf bs Y X tx B)(m:b∈bs)(hx:x=X b.l∨x=X b.r):B (Y b.t+1) x=124:=by
 have g:=N.of m;have h1:=g.ny;have h2:=N.ly b.t (b.t+1) (lI5 _) (lM7 g.tb g.bR);have hv:X5 (qB Y X b) (Y b.t+1) x:=⟨hx,by show Y b.t<_/\_<Y b.b;exact⟨lI5 _,Cp (Ae (.a x0 (.n 1)) x1) [Ac (.a x0 (.n 2)) x1] rT h1⟩⟩
 rw[p.out _ x λd md=>N.colOut m md hx (by exact lI4 _ _) (by exact Cp (Ac (.a x0 (.n 1)) x1) [Ac (.a x0 (.n 2)) x1] rT h1)]
 exact(lO5 (N.noK (i:=b.t) (.inl ⟨lF5 g.tb g.bR,by exact lI5 _,by exact Cp (Ae (.a x0 (.n 1)) x1) [Ac (.a x0 (.n 2)) x1] rT h2⟩))).trans ((lO5 λ⟨d,md,hd⟩=>N.cross md m hd hv).trans (lO6 ⟨b,m,hv⟩))
theorem Sf.blank(p:Sf bs Y X tx B)(m:b∈bs)(h:zB4 Y X b y x)(hb:y=Y b.t+1∨x=X b.l+1):B y x=32:=by
 rw[p.ins b m y x h];exact lO5 λz=>by exact Or.elim hb (λhd254=>An [_,_] [Ac (.a x1 (.n 2)) x0,eq1 x0 (.a x1 (.n 1))] rT z.1 hd254) (λhd254=>An [_,_] [Ac (.a x1 (.n 2)) x0,eq1 x0 (.a x1 (.n 1))] rT z.2 hd254)
structure zDd (sg:Nat->Nat->Option Nat)(y x:Nat):Prop where
 k:sg y x=some 43
 h:sg y (x+1)=some 45
 v:sg (y+1) x=some 124
noncomputable def U9 (h w:Nat)(B:Bo)(y x:Nat):Option Nat:=if y<h/\x<w then some (B y x)else none
theorem Hh(hy:y<h)(hx:x<w):U9 h w B y x=some (B y x):=lO6 ⟨hy,hx⟩
theorem On(hn:h<=y∨w<=x):U9 h w B y x=none:=lO5 λz=>by exact Or.elim hn (λhd255=>An [_,_] [Ae x1 x0,Ac x0 x1] rT z.1 hd255) (λhd255=>An [_,_] [Ae x1 x0,Ac x0 x1] rT z.2 hd255)
theorem Jp.bot(N:Jp R C bs Y X)(m:b∈bs):Y b.b<Y R+1/\X b.r<X C+1:=
 ⟨Nat.lt_succ_of_le (N.ly.le (N.of m).bR (lN4 _)),Nat.lt_succ_of_le (N.lx.le (N.of m).rC (lN4 _))⟩
theorem Sf.begins(N:Jp R C bs Y X)(p:Sf bs Y X tx B)(m:b∈bs):zDd (U9 (Y R+1) (X C+1) B) (Y b.t) (X b.l):=by
 have g:=N.of m;have h1:=g.nx;have h2:=g.ny;have h3:=N.bot m;exact⟨by rw[Hh (by exact Ck (Ae x0 (.a x1 (.n 1))) [Ac (.a x0 (.n 2)) x2,Ae x2 (.a x1 (.n 1))] rT h2 h3.1) (by exact Ck (Ae x0 (.a x1 (.n 1))) [Ac (.a x0 (.n 2)) x2,Ae x2 (.a x1 (.n 1))] rT h1 h3.2),p.corner N m (.inl rfl) (.inl rfl)],by rw[Hh (by exact Ck (Ae x0 (.a x1 (.n 1))) [Ac (.a x0 (.n 2)) x2,Ae x2 (.a x1 (.n 1))] rT h2 h3.1) (by exact Ck (Ae (.a x0 (.n 1)) (.a x1 (.n 1))) [Ac (.a x0 (.n 2)) x2,Ae x2 (.a x1 (.n 1))] rT h1 h3.2),p.top N m (.inl rfl)],by rw[Hh (by exact Ck (Ae (.a x0 (.n 1)) (.a x1 (.n 1))) [Ac (.a x0 (.n 2)) x2,Ae x2 (.a x1 (.n 1))] rT h2 h3.1) (by exact Ck (Ae x0 (.a x1 (.n 1))) [Ac (.a x0 (.n 2)) x2,Ae x2 (.a x1 (.n 1))] rT h1 h3.2),p.side N m (.inl rfl)]⟩
theorem Sf.beginsE(N:Jp R C bs Y X)(p:Sf bs Y X tx B)(m:b∈bs)(h:zDd (U9 (Y R+1) (X C+1) B) (Y b.t) (X b.r)):∃d,d∈bs/\d.t=b.t/\d.l=b.r:=by
 have g:=N.of m;have hq1:=g.tb;have hq2:=g.bR;have hq3:=g.lr;have hq4:=g.rC;rcases lM8 b.r C with q|q
 ·obtain⟨d,md,hd⟩:=N.til.cov b.t b.r (lF5 hq1 hq2) q;have gd:=N.of md;have hd1:(d.t<=b.t/\b.t<d.b)/\d.l<=b.r/\b.r<d.r:=hd
  have e1:d.l=b.r:=by
   rcases lF6 hd1.2.1 with z|z
   ·have e:=N.meet m md ⟨hd1.1.2,lF3 hd1.1.1 hq1,lM9 hq3 hd1.2.2,z⟩;rw[e]at hd1;exact Du (λZ=>An [_] [Ae x0 x0] rT hd1.2.2) (λZ=>An [_] [Ae x0 x0] rT hd1.2.2)
   ·exact z
  rcases lF6 hd1.1.1 with z|z
  ·exfalso
   have n1:=N.ly d.t b.t z (lM7 (lM6 hq1) hq2);have n2:=N.ly b.t d.b hd1.1.2 gd.bR;have n3:=gd.nx;have hi:zB4 Y X d (Y b.t) (X b.r+1):=⟨by exact Cp (Ae x0 x1) [Ac (.a x0 (.n 2)) x1] rT n1,by exact Cp (Ae x0 x1) [Ac (.a x0 (.n 2)) x1] rT n2,by rw[e1];exact lI5 _,by rw[e1]at n3;exact Cp (Ae (.a x0 (.n 1)) x1) [Ac (.a x0 (.n 2)) x1] rT n3⟩
   have:=p.blank md hi (.inr (by rw[e1]))
   have k:=h.h;have b1:=N.bot md;rw[Hh (by have hq5:=N.bot m;have hq6:=g.ny;exact Ck (Ae x0 (.a x1 (.n 1))) [Ac (.a x0 (.n 2)) x2,Ae x2 (.a x1 (.n 1))] rT n2 b1.1) (by rw[e1]at n3;exact Ck (Ae (.a x0 (.n 1)) (.a x1 (.n 1))) [Ac (.a x0 (.n 2)) x2,Ae x2 (.a x1 (.n 1))] rT n3 b1.2),this]at k
   cases k
  ·exact⟨d,md,z,e1⟩
 ·exfalso
  have e:b.r=C:=by exact Du (λZ=>An [_,_] [Ae x0 x1,Ac x1 x0] rT Z q) (λZ=>An [_,_] [Ae x1 x0,Ac x0 x1] rT Z g.rC)
  have k:=h.h;rw[On (.inr (by rw[e];exact lN4 _))]at k
  cases k
theorem Sf.beginsS(N:Jp R C bs Y X)(p:Sf bs Y X tx B)(m:b∈bs)(h:zDd (U9 (Y R+1) (X C+1) B) (Y b.b) (X b.l)):∃d,d∈bs/\d.t=b.b/\d.l=b.l:=by
 have g:=N.of m;have hq1:=g.tb;have hq2:=g.bR;have hq3:=g.lr;have hq4:=g.rC;rcases lM8 b.b R with q|q
 ·obtain⟨d,md,hd⟩:=N.til.cov b.b b.l q (lF5 hq3 hq4);have gd:=N.of md;have hd1:(d.t<=b.b/\b.b<d.b)/\d.l<=b.l/\b.l<d.r:=hd
  have e1:d.t=b.b:=by
   rcases lF6 hd1.1.1 with z|z
   ·have e:=N.meet m md ⟨lM9 hq1 hd1.1.2,z,hd1.2.2,lF3 hd1.2.1 hq3⟩;rw[e]at hd1;exact Du (λZ=>An [_] [Ae x0 x0] rT hd1.1.2) (λZ=>An [_] [Ae x0 x0] rT hd1.1.2)
   ·exact z
  rcases lF6 hd1.2.1 with z|z
  ·exfalso
   have n1:=N.lx d.l b.l z (lM7 (lM6 hq3) hq4);have n2:=N.lx b.l d.r hd1.2.2 gd.rC;have n3:=gd.ny;have hi:zB4 Y X d (Y b.b+1) (X b.l):=⟨by rw[e1];exact lI5 _,by rw[e1]at n3;exact Cp (Ae (.a x0 (.n 1)) x1) [Ac (.a x0 (.n 2)) x1] rT n3,by exact Cp (Ae x0 x1) [Ac (.a x0 (.n 2)) x1] rT n1,by exact Cp (Ae x0 x1) [Ac (.a x0 (.n 2)) x1] rT n2⟩
   have:=p.blank md hi (.inl (by rw[e1]))
   have k:=h.v;have b1:=N.bot md;rw[Hh (by rw[e1]at n3;exact Ck (Ae (.a x0 (.n 1)) (.a x1 (.n 1))) [Ac (.a x0 (.n 2)) x2,Ae x2 (.a x1 (.n 1))] rT n3 b1.1) (by have hq5:=N.bot m;have hq6:=g.nx;exact Ck (Ae x0 (.a x1 (.n 1))) [Ac (.a x0 (.n 2)) x2,Ae x2 (.a x1 (.n 1))] rT n2 b1.2),this]at k
   cases k
  ·exact⟨d,md,e1,z⟩
 ·exfalso
  have e:b.b=R:=by exact Du (λZ=>An [_,_] [Ae x0 x1,Ac x1 x0] rT Z q) (λZ=>An [_,_] [Ae x1 x0,Ac x0 x1] rT Z hq2)
  have k:=h.v;rw[On (.inl (by rw[e];exact lN4 _))]at k
  cases k
theorem Jp.behind(N:Jp R C bs Y X)(m:c∈bs)(h0:c.t≠0∨c.l≠0):∃d,d∈bs/\zMB d c/\((d.t=c.t/\d.r=c.l)∨(d.b=c.t/\d.l=c.l)):=by
 have g:=N.of m;have hq1:=g.tb;have hq2:=g.bR;have hq3:=g.lr;have hq4:=g.rC;have left:c.l≠0->∃b,b∈bs/\b.r=c.l/\b.t<=c.t/\c.t<b.b/\b.l<c.l:=λz=>by
  obtain⟨b,mb,hb⟩:=N.til.cov c.t (c.l - 1) (lF5 hq1 hq2) (by exact Cd (Ae x1 x0) [Ae x2 x3,Ac x3 x0,Ac x1 x2] rT hq3 hq4 (Eb _ _))
  have hb:(b.t<=c.t/\c.t<b.b)/\b.l<=c.l - 1/\c.l - 1<b.r:=hb
  refine⟨b,mb,?_,hb.1.1,hb.1.2,by lia⟩
  rcases lH1 b.r c.l with q|q|q
  ·exact Du (λZ=>An [_,_,_] [Ae x1 x0,Ae x2 x1,Ac x0 (.a x2 (.n 1))] rT Z hb.2.2 (Ao _ _)) (λZ=>An [_,_] [Ae x0 x1,Ae x1 x0] rT Z q)
  ·exact q
  ·have e:=N.meet mb m ⟨lF3 hb.1.1 hq1,hb.1.2,by exact Cd (Ae x1 x0) [Ae x2 x0,Ac x1 x3,Ac x3 x2] rT hq3 hb.2.1 (Eb _ _),q⟩;rw[e]at hb;lia
 have up:c.t≠0->∃a,a∈bs/\a.b=c.t/\a.l<=c.l/\c.l<a.r/\a.t<c.t:=λz=>by
  obtain⟨a,ma,ha⟩:=N.til.cov (c.t - 1) c.l (by exact Cd (Ae x1 x0) [Ae x2 x3,Ac x3 x0,Ac x1 x2] rT hq1 hq2 (Eb _ _)) (lF5 hq3 hq4)
  have ha:(a.t<=c.t - 1/\c.t - 1<a.b)/\a.l<=c.l/\c.l<a.r:=ha
  refine⟨a,ma,?_,ha.2.1,ha.2.2,by lia⟩
  rcases lH1 a.b c.t with q|q|q
  ·exact Du (λZ=>An [_,_,_] [Ae x1 x0,Ae x2 x1,Ac x0 (.a x2 (.n 1))] rT Z ha.1.2 (Ao _ _)) (λZ=>An [_,_] [Ae x0 x1,Ae x1 x0] rT Z q)
  ·exact q
  ·have e:=N.meet ma m ⟨by exact Cd (Ae x1 x0) [Ae x2 x0,Ac x1 x3,Ac x3 x2] rT hq1 ha.1.1 (Eb _ _),q,lF3 ha.2.1 hq3,ha.2.2⟩;rw[e]at ha;lia
 by_cases zl:c.l=0
 ·obtain⟨a,ma,a1,a2,a3,a4⟩:=up (h0.elim id λq=>absurd zl q)
  exact⟨a,ma,.inl a4,.inr ⟨a1,by exact Du (λZ=>An [_,_] [Ae x1 x0,eq1 x0 (.n 0),Ac (.n 0) x1] rT Z zl (lq5 _)) (λZ=>An [_,_] [Ae x0 x1,Ac x1 x0] rT Z a2)⟩⟩
 ·obtain⟨b,mb,b1,b2,b3,b4⟩:=left zl;rcases lF6 b2 with q|q
  ·obtain⟨a,ma,a1,a2,a3,a4⟩:=up (by exactλZ=>An [_,_] [eq1 x0 (.n 0),Ae x1 x0,Ac (.n 0) x1] rT Z q (lq5 _))
   rcases lF6 a2 with r|r
   ·have e:=N.meet ma mb ⟨lM9 a4 b3,lF5 q (lM5 (Eq.symm a1)),lF5 r (lM5 (Eq.symm b1)),by have hq5:=(N.of ma).lr;exact lM9 b4 a3⟩
    rw[e]at a1;exact False.elim (An [_,_] [Ae x0 x1,eq1 x1 x0] rT b3 a1)
   ·exact⟨a,ma,.inl a4,.inr ⟨a1,r⟩⟩
  ·exact⟨b,mb,.inr ⟨q,b4⟩,.inl ⟨q,b1⟩⟩
theorem Jp.all(N:Jp R C bs Y X){P:Bn->Prop}(h0:∀b,b∈bs->b.t=0->b.l=0->P b)(hs:∀b d,b∈bs->d∈bs->P b->((d.t=b.t/\d.l=b.r)∨(d.t=b.b/\d.l=b.l))->P d):∀b,b∈bs->P b:=by
 have go:∀(n:Nat) (b:Bn),b∈bs->b.t*(C+1)+b.l<n->P b:=by
  intro n
  induction n with
  |zero=>intro b _ h;exact False.elim (An [_,_] [Ae (.a x0 x1) (.n 0),Ac (.n 0) x0,Ac (.n 0) x1] rT h (lq5 _) (lq5 _))
  |succ n ih=>
   intro b m hn;by_cases z:b.t≠0∨b.l≠0
   ·obtain⟨d,md,hlt,hd⟩:=N.behind m z;have gd:=N.of md;have g:=N.of m;refine hs d b md m (ih d md ?_) (by rcases hd with⟨e1,e2⟩|⟨e1,e2⟩;exact .inl ⟨e1.symm,e2.symm⟩;exact .inr ⟨e1.symm,e2.symm⟩)
    have hq1:=gd.lr;have:=gd.rC
    rcases hlt with q|⟨q,r⟩
    ·have:(d.t+1)*(C+1)<=b.t*(C+1):=Nat.mul_le_mul_right _ q
     rw[Nat.succ_mul]at this;exact Or.elim z (λhd280=>Or.elim hd (λhd281=>zE5 λZ=>An [_,_] [Ae x0 x1,Cz x0 x1] rT q hd281.1) (λhd281=>zE5 λZ=>An [_,_,_,_,_,_] [Ac x0 (.a x2 x1),Ae (.a x3 x4) (.a x0 (.n 1)),Ac (.a x2 (.a x5 (.n 1))) x3,eq1 x1 x4,Ac (.n 0) x5] rT Z hn this hd281.2 (lq5 _))) (λhd280=>Or.elim hd (λhd282=>zE5 λZ=>An [_,_] [Ae x0 x1,Cz x0 x1] rT q hd282.1) (λhd282=>zE5 λZ=>An [_,_,_,_,_,_] [Ac x0 (.a x2 x1),Ae (.a x3 x4) (.a x0 (.n 1)),Ac (.a x2 (.a x5 (.n 1))) x3,eq1 x1 x4,Ac (.n 0) x5] rT Z hn this hd282.2 (lq5 _)))
    ·rw[q]at *; exact Cd (Ae (.a x0 x2) x1) [Ae (.a x0 x3) (.a x1 (.n 1)),Ae x2 x3] rT hn r
   ·exact h0 b m (by lia) (by lia)
 exactλb m=>go _ b m (lI5 _)
end
section
open Builtin.Str
section
open Classical
theorem zCX{bs:List Qb}(hx:∀a,a∈bs->∀b,b∈bs->∀y x,Uf a y x->¬X5 b y x)(y x:Nat)(l:List Qb):∀(B:Bo),(∀b,b∈l->b∈bs)->(l.foldl (λB b=>Db (X5 b) 124 (Db (Uf b) 45 B)) B) y x=if B y x=43 then 43 else if∃b,b∈l/\Uf b y x then 45 else if∃b,b∈l/\X5 b y x then 124 else B y x:=by
 induction l with
 |nil=>
  intro B _;by_cases g:B y x=43
  ·rw[lO6 g];exact g
  ·rw[lO5 g,lO5 (λ⟨b,m,_⟩=>nomatch m),lO5 (λ⟨b,m,_⟩=>nomatch m)];rfl
 |cons a l ih=>
  intro B hl;rw[lJ2,ih _ λb m=>hl b (lq4 _ m)]
  have ma:=hl a lq1;have hm:=λb m=>hl b (lq4 a m)
  have ev:Db (X5 a) 124 (Db (Uf a) 45 B) y x=if B y x=43 then 43 else if Uf a y x then 45 else if X5 a y x then 124 else B y x:=by
   unfold Db;by_cases g:B y x=43
   ·simp[g]
   ·by_cases h:Uf a y x
    ·have v:=hx a ma a ma y x h;simp[g,h,v]
    ·simp[g,h]
  have ex:∀(P:Qb->Prop),(∃b,b∈a::l/\P b)↔(P a∨∃b,b∈l/\P b):=λP=>by simp
  rw[ev];simp only[ex];by_cases g:B y x=43
  ·simp[g]
  ·by_cases h:Uf a y x
   ·have nv:¬∃b,b∈l/\X5 b y x:=λ⟨b,m,v⟩=>hx a ma b (hm b m) y x h v
    simp[g,h,nv]
   ·by_cases v:X5 a y x
    ·have nh:¬∃b,b∈l/\Uf b y x:=λ⟨b,m,z⟩=>hx b (hm b m) a ma y x z v
     simp[g,h,v,nh]
    ·simp[g,h,v]
end
theorem zHY{y x0:Nat}(ln:List Nat):∀(k:Nat) (B:Bo) (i j:Nat),Fo (λj c B=>Gp B y (x0+j) c) k ln B i j=if i=y/\x0+k<=j then(ln[j - (x0+k)]?).getD (B i j)else B i j:=by
 induction ln with
 |nil=>intro k B i j;show B i j=_;simp
 |cons c ln ih=>
  intro k B i j;show Fo (λj c B=>Gp B y (x0+j) c) (k+1) ln (Gp B y (x0+k) c) i j=_
  rw[ih];unfold Gp;by_cases hi:i=y
  ·subst hi;rcases lH1 j (x0+k)with q|q|q
   ·rw[lO5 (by lia),lO5 (by lia),lO5 (by lia)]
   ·subst q;rw[lO5 (by lia),lO6 ⟨rfl,rfl⟩,lO6 ⟨rfl,lN4 _⟩,lN1];rfl
   ·rw[lO6 ⟨rfl,by lia⟩,lO5 (by lia),lO6 ⟨rfl,by lia⟩,show j - (x0+k)=(j - (x0+(k+1)))+1 by lia,List.getElem?_cons_succ]
  ·simp[hi]
noncomputable def zGU (x:Str)(k j:Nat):Option Nat:=((Txt.split x ⟨#[10]⟩)[k]?).bind λln=>(cl ln)[j]?
theorem Zt{q:Qb}(ls:List Str):∀(k:Nat) (B:Bo) (y x:Nat),Fo (λk (ln:Str) B=>Rj (q.n+2+k) (q.w+2) (cl ln) B) k ls B y x=if q.n+2+k<=y/\q.w+2<=x then((ls[y - (q.n+2+k)]?).bind λln=>(cl ln)[x - (q.w+2)]?).getD (B y x)else B y x:=by
 induction ls with
 |nil=>intro k B y x;show B y x=_;simp
 |cons ln ls ih=>
  intro k B y x;show Fo (λk (ln:Str) B=>Rj (q.n+2+k) (q.w+2) (cl ln) B) (k+1) ls (Rj (q.n+2+k) (q.w+2) (cl ln) B) y x=_
  have el:Rj (q.n+2+k) (q.w+2) (cl ln) B y x=if y=q.n+2+k/\q.w+2<=x then((cl ln)[x - (q.w+2)]?).getD (B y x)else B y x:=zHY (cl ln) 0 B y x
  rw[ih,el];by_cases hx:q.w+2<=x
  ·rcases lH1 y (q.n+2+k)with r|r|r
   ·rw[lO5 (by lia),lO5 (by lia),lO5 (by lia)]
   ·subst r;rw[lO5 (by lia),lO6 ⟨rfl,hx⟩,lO6 ⟨lN4 _,hx⟩,lN1];rfl
   ·rw[lO6 (by exact⟨Ck (Ac (.a (.a x0 (.n 2)) (.a x1 (.n 1))) x2) [Ae (.a (.a x0 (.n 2)) x1) x2] rT r,hx⟩),lO5 (by lia),lO6 (by exact⟨lM6 r,hx⟩),show y - (q.n+2+k)=(y - (q.n+2+(k+1)))+1 by exact Du (λZ=>An [_,_,_,_,_] [Ae x0 (.a x1 (.n 1)),Ac x4 (.a x0 (.a (.a x2 (.n 2)) x3)),eq1 (.a x1 (.a (.a x2 (.n 2)) (.a x3 (.n 1)))) x4] rT Z (Ao _ _) (Aq (Ck (Ac (.a (.a x0 (.n 2)) (.a x1 (.n 1))) x2) [Ae (.a (.a x0 (.n 2)) x1) x2] rT r))) (λZ=>An [_,_,_,_,_] [Ae (.a x1 (.n 1)) x0,Ac x4 (.a x1 (.a (.a x2 (.n 2)) (.a x3 (.n 1)))),eq1 (.a x0 (.a (.a x2 (.n 2)) x3)) x4] rT Z (Ao _ _) (Aq (lM6 r))),List.getElem?_cons_succ]
  ·rw[lO5 (by lia),lO5 (by lia),lO5 (by lia)]
section
variable {cs:List Cn}{R C:Nat}{Fy Fx:List Int}
noncomputable def Dy (F:List Int)(i:Nat):Nat:=(F.getD i 0).toNat
theorem J5.lns(g:J5 cs R C Fy Fx):zCT (Dy Fy) R/\zCT (Dy Fx) C:=by
 have n1:=g.ny;have n2:=g.nx;exact⟨λi j h hj=>by have:=Ng g.ly (lM6 h) (by exact Ck (Ae x1 x0) [Cz x0 (.a x2 (.n 1)),Ac x1 x2] rT n1 hj);unfold Dy;exact Mr (Ac (.a x0 (.n 2)) x1) [Zx 2 x2 x3,Ac (.a x0 (.m 2 x4)) x1,Qe 2 x3 (.a x4 x2)] rT h this (Ao _ _),λi j h hj=>by have:=Ng g.lx (lM6 h) (by exact Ck (Ae x1 x0) [Cz x0 (.a x2 (.n 1)),Ac x1 x2] rT n2 hj);unfold Dy;exact Mr (Ac (.a x0 (.n 2)) x1) [Zx 2 x2 x3,Ac (.a x0 (.m 2 x4)) x1,Qe 2 x3 (.a x4 x2)] rT h this (Ao _ _)⟩
structure Rm (q:Qb)(x:Str):Prop where
 row:q.n+2+(Txt.split x ⟨#[10]⟩).length<=q.s
 col:∀y,y∈Txt.split x ⟨#[10]⟩->q.w+3+y.length<=q.e
theorem J5.room(g:J5 cs R C Fy Fx)(m:c∈cs):Rm (D3 Fy Fx c) c.x:=by
 have h1:=g.row c m;have h2:=g.col c m;have n1:=g.ny;have n2:=g.nx;have r1:Fy.getD c.t 0+(3+zKx c.x)<=Fy.getD c.b 0:=g.ly.room (s:=V0 false c) (k:=c.b) (lM4.mpr ⟨c,m,rfl⟩) rfl (by exact Cp (Ac (.n 1) x0) [Ae x1 x0,Ac (.n 0) x1] rT h1.1 (lq5 _)) (by exact Ck (Ae x0 x1) [Ac x0 x2,Cz x1 (.a x2 (.n 1))] rT h1.2 n1)
 have r2:Fx.getD c.l 0+(3+Zh c.x)<=Fx.getD c.r 0:=g.lx.room (s:=V0 true c) (k:=c.r) (lM4.mpr ⟨c,m,rfl⟩) rfl (by exact Cp (Ac (.n 1) x0) [Ae x1 x0,Ac (.n 0) x1] rT h2.1 (lq5 _)) (by exact Ck (Ae x0 x1) [Ac x0 x2,Cz x1 (.a x2 (.n 1))] rT h2.2 n2)
 have y1:=Em g.ly (k:=c.t) (by exact Cd (Ae x0 x1) [Ae x0 x2,Ac x2 x3,Cz x1 (.a x3 (.n 1))] rT h1.1 h1.2 n1);have y2:=Em g.ly (k:=c.b) (by exact Ck (Ae x0 x1) [Ac x0 x2,Cz x1 (.a x2 (.n 1))] rT h1.2 n1);have z1:=Em g.lx (k:=c.l) (by exact Cd (Ae x0 x1) [Ae x0 x2,Ac x2 x3,Cz x1 (.a x3 (.n 1))] rT h2.1 h2.2 n2);have z2:=Em g.lx (k:=c.r) (by exact Ck (Ae x0 x1) [Ac x0 x2,Cz x1 (.a x2 (.n 1))] rT h2.2 n2);have sl:=I5 (x:=c.x);have e1:(D3 Fy Fx c).s=(Fy.getD c.b 0).toNat:=rfl
 have e2:(D3 Fy Fx c).n=(Fy.getD c.t 0).toNat:=rfl
 have e3:(D3 Fy Fx c).e=(Fx.getD c.r 0).toNat:=rfl
 have e4:(D3 Fy Fx c).w=(Fx.getD c.l 0).toNat:=rfl
 unfold zKx at r1;refine⟨by exact G9 (Zd λZ=>Az [(↑(Fy.getD c.t 0).toNat),(↑(Fy.getD c.b 0).toNat),(↑(Txt.split c.x {cps:= #[10]}).length),(Fy.getD c.t 0),(Txt.count c.x {cps:= #[10]}),(Fy.getD c.b 0)] [Ae x1 (.a (.a x0 (.n 2)) x2),Ac (.a x3 (.a (.n 3) x4)) x5,Cz x3 x0,eq1 x5 x1,eq1 x2 (.a x4 (.n 1))] rT Z r1 y1 y2 sl),λy my=>?_⟩
 have:=zEB my
 exact G9 (Zd λZ=>Az [(↑(Fx.getD c.l 0).toNat),(↑(Fx.getD c.r 0).toNat),(↑y.length),(Fx.getD c.l 0),(Zh c.x),(Fx.getD c.r 0)] [Ae x1 (.a (.a x0 (.n 3)) x2),Ac (.a x3 (.a (.n 3) x4)) x5,Cz x3 x0,eq1 x5 x1,Ac x2 x4] rT Z r2 z1 z2 this)
theorem zKJ(r:Rm q x)(h:zGU x k j=some c):q.n+2+k<q.s/\q.w+3+j<=q.e:=by
 obtain⟨ln,h1,h2⟩:=lB3.mp h;have a:=(lq2 h1).1;have b:=(lq2 h2).1;rw[Bb]at b;have hq1:=r.row;have hq2:=r.col ln (lD5 h1);exact⟨Cd (Ae (.a (.a x1 (.n 2)) x0) x2) [Ae x0 x3,Ac (.a (.a x1 (.n 2)) x3) x2] rT a hq1,Cd (Ac (.a (.a x1 (.n 3)) x0) x2) [Ae x0 x3,Ac (.a (.a x1 (.n 3)) x3) x2] rT b hq2⟩
open Classical in
noncomputable def zNX (cs:List Cn)(b:Bn)(k j:Nat):Nat:=if h:∃c,c∈cs/\c.bn=b then(zGU (choose h).x k j).getD 32 else 32
theorem zCg(T:Nf R C (cs.map Cn.bn))(ma:a∈cs)(mb:b∈cs)(e:a.bn=b.bn):a=b:=by
 have h:cs.Pairwise λa b=>zMB a.bn b.bn:=(lG6 (f:=Cn.bn)).mp T.ord
 rcases zCh h ma mb with q|q|q
 ·exact q
 ·rw[e]at q;rcases q with q|q<;>lia
 ·rw[e]at q;rcases q with q|q<;>lia
theorem Xl(T:Nf R C (cs.map Cn.bn))(m:c∈cs)(k j:Nat):zNX cs c.bn k j=(zGU c.x k j).getD 32:=by
 have h:∃d,d∈cs/\d.bn=c.bn:=⟨c,m,rfl⟩
 unfold zNX;rw[dif_pos h];have:=Classical.choose_spec h
 rw[zCg T this.1 m this.2]
theorem Pq(hr:∀c,c∈cs->Rm (D3 Fy Fx c) c.x)(l:List Cn)(y x:Nat):∀(B:Bo),(∀c,c∈l->c∈cs)->(∀c,c∈l->¬zB4 (Dy Fy) (Dy Fx) c.bn y x)->Iv l (D3 Fy Fx) B y x=B y x:=by
 induction l with
 |nil=>intro B _ _;rfl
 |cons c l ih=>
  intro B hm hn;show Iv l (D3 Fy Fx) (Rs (D3 Fy Fx c) c.x B) y x=_
  rw[ih _ (λd m=>hm d (lq4 _ m)) λd m=>hn d (lq4 _ m)]
  refine(Zt (Txt.split c.x ⟨#[10]⟩) 0 B y x).trans ?_
  rw[Nat.add_zero];split
  ·rename_i z
   cases e:zGU c.x (y - ((D3 Fy Fx c).n+2)) (x - ((D3 Fy Fx c).w+2))with
   |none=>show(zGU c.x _ _).getD _=_;rw[e];rfl
   |some s=>
    have:=zKJ (hr c (hm c lq1)) e
    have a1:(D3 Fy Fx c).n=Dy Fy c.t:=rfl
    have a2:(D3 Fy Fx c).w=Dy Fx c.l:=rfl
    have a3:(D3 Fy Fx c).s=Dy Fy c.b:=rfl
    have a4:(D3 Fy Fx c).e=Dy Fx c.r:=rfl
    exact absurd (⟨by show Dy Fy c.t<y;exact Cp (Ae x0 x1) [Ac (.a x0 (.n 2)) x1] rT z.1,by show y<Dy Fy c.b;exact Cd (Ae x0 x1) [Ae (.a (.a x2 (.n 2)) x3) x1,Ac x0 (.a x3 (.a x2 (.n 2)))] rT this.1 (Ao _ _),by show Dy Fx c.l<x;exact Cp (Ae x0 x1) [Ac (.a x0 (.n 2)) x1] rT z.2,by show x<Dy Fx c.r;exact Cd (Ae x0 x1) [Ac (.a (.a x2 (.n 3)) x3) x1,Ac x0 (.a x3 (.a x2 (.n 2)))] rT this.2 (Ao _ _)⟩:zB4 (Dy Fy) (Dy Fx) c.bn y x) (hn c lq1)
  ·rfl
theorem J5.net(g:J5 cs R C Fy Fx)(T:Nf R C (cs.map Cn.bn)):Jp R C (cs.map Cn.bn) (Dy Fy) (Dy Fx):=⟨T,g.lns.1,g.lns.2⟩
open Classical in
theorem J5.pic(g:J5 cs R C Fy Fx)(T:Nf R C (cs.map Cn.bn)):Sf (cs.map Cn.bn) (Dy Fy) (Dy Fx) (zNX cs) (Jk cs (D3 Fy Fx)):=by
 have N:=g.net T;have eq1:cs.map (D3 Fy Fx)=(cs.map Cn.bn).map (qB (Dy Fy) (Dy Fx)):=by rw[lM3];rfl
 have hx:∀a,a∈cs.map (D3 Fy Fx)->∀b,b∈cs.map (D3 Fy Fx)->∀y x,Uf a y x->¬X5 b y x:=λa ma b mb y x h v=>by
  rw[eq1]at ma mb;obtain⟨a',ma',rfl⟩:=lM4.mp ma;obtain⟨b',mb',rfl⟩:=lM4.mp mb;exact N.cross ma' mb' h v
 have base:∀y x,((cs.map (D3 Fy Fx)).foldl (λB q=>Db (X5 q) 124 (Db (Uf q) 45 B)) ((cs.map (D3 Fy Fx)).foldl (λB q=>Hu (zFr q) 43 B) λ_ _=>32)) y x=zBx (cs.map Cn.bn) (Dy Fy) (Dy Fx) y x:=λy x=>by
  rw[zCX hx y x _ _ λ_ m=>m,Ry,eq1]
  have em:∀P:Qb->Prop,(∃q,q∈(cs.map Cn.bn).map (qB (Dy Fy) (Dy Fx))/\P q)↔∃b,b∈cs.map Cn.bn/\P (qB (Dy Fy) (Dy Fx) b):=λP=>by
   constructor
   ·rintro⟨q,m,h⟩
    obtain⟨b,mb,rfl⟩:=lM4.mp m;exact⟨b,mb,h⟩
   ·rintro⟨b,mb,h⟩
    exact⟨_,lM4.mpr ⟨b,mb,rfl⟩,h⟩
  unfold zBx Hu;simp only[em];by_cases k:∃b,b∈cs.map Cn.bn/\zFr (qB (Dy Fy) (Dy Fx) b) y x
  ·rw[lO6 k,lO6 rfl,lO6 k]
  ·rw[lO5 k,lO5 (by decide),lO5 k]
 refine⟨λy x hn=>?_,λb mb y x hi=>?_⟩
 ·unfold Jk;rw[Pq (λc m=>g.room m) cs y x _ (λ_ m=>m) λc m=>hn _ (lM4.mpr ⟨c,m,rfl⟩),base]
 ·obtain⟨c,mc,rfl⟩:=lM4.mp mb;have hs:zBx (cs.map Cn.bn) (Dy Fy) (Dy Fx) y x=32:=by
   unfold zBx;rw[lO5,lO5,lO5]
   ·rintro⟨d,md,h1,h2,h3⟩
    exact N.colOut md mb h1 (lM6 h2) (lM6 h3) hi
   ·rintro⟨d,md,h1,h2,h3⟩
    exact N.rowOut md mb h1 (lM6 h2) (lM6 h3) hi
   ·rintro⟨d,md,h1,h2⟩
    have:=(N.of md).nx
    have h2:x=Dy Fx d.l∨x=Dy Fx d.r:=h2
    exact N.rowOut md mb h1 (by lia) (by lia) hi
  obtain⟨l1,l2,el⟩:=List.append_of_mem mc;have nd:cs.Nodup:=((lG6 (f:=Cn.bn)).mp T.ord).imp λ{a b} h e=>by subst e;rcases h with h|h<;>lia
  have other:∀d,d∈cs->d≠c->¬zB4 (Dy Fy) (Dy Fx) d.bn y x:=λd md ne hd=>ne (zCg T md mc (N.one (lM4.mpr ⟨d,md,rfl⟩) mb hd hi))
  have nd2:=nd;rw[el]at nd2;have d1:∀d,d∈l1->d∈cs/\d≠c:=λd m=>⟨by rw[el];exact lD4 _ m,λe=>(lG5.mp nd2).2.2 d m c lq1 e⟩
  have d2:∀d,d∈l2->d∈cs/\d≠c:=λd m=>⟨by rw[el];exact lC6 _ (lq4 _ m),λe=>(List.nodup_cons.mp (lG5.mp nd2).2.1).1 (e▸m)⟩
  have rr:=λc m=>g.room (c:=c) m
  have e2:∀B,Iv cs (D3 Fy Fx) B y x=Rs (D3 Fy Fx c) c.x (Iv l1 (D3 Fy Fx) B) y x:=λB=>by
   have:Iv cs (D3 Fy Fx) B=Iv l2 (D3 Fy Fx) (Rs (D3 Fy Fx c) c.x (Iv l1 (D3 Fy Fx) B)):=by
    unfold Iv;rw[el,List.foldl_append,lJ2]
   rw[this,Pq rr l2 y x _ (λd m=>(d2 d m).1) λd m=>other d (d2 d m).1 (d2 d m).2]
  unfold Jk;rw[e2];refine(Zt (Txt.split c.x ⟨#[10]⟩) 0 _ y x).trans ?_
  rw[Pq rr l1 y x _ (λd m=>(d1 d m).1) (λd m=>other d (d1 d m).1 (d1 d m).2),base,hs,Nat.add_zero]
  show(if Dy Fy c.t+2<=y/\Dy Fx c.l+2<=x then(zGU c.x (y - (Dy Fy c.t+2)) (x - (Dy Fx c.l+2))).getD 32 else 32)=if Dy Fy c.t+2<=y/\Dy Fx c.l+2<=x then zNX cs c.bn (y - (Dy Fy c.t+2)) (x - (Dy Fx c.l+2))else 32
  rw[Xl T mc]
end
end
section
open Builtin.Str
structure Ue (kr h w:Nat)(B:Bo)(σ:C3):Prop where
 ex:∃xs:List Str,σ[kr]? =some (.list (xs.map D.str))/\xs.map cl=Di h w B
 hh:h<=5000
 hw:w<=5000
section
variable {kr h w:Nat}{B:Bo}{σ σ':C3}
theorem Ue.kp(r:Ue kr h w B σ)(k:Kp σ σ'):Ue kr h w B σ':=by obtain⟨xs,e,q⟩:=r.ex;exact⟨⟨xs,k.2 _ _ e,q⟩,r.hh,r.hw⟩
theorem Ue.row(r:Ue kr h w B σ)(hy:y<h):∃(ds:List D) (z:Str),σ[kr]? =some (.list ds)/\ds.length=h/\ds[y]? =some (.str z)/\cl z=(List.range w).map (B y):=by
 obtain⟨xs,e,q⟩:=r.ex;have hl:xs.length=h:=by have:=lO2 List.length q;simpa [Di]using this
 have hy':y<xs.length:=lF5 hy (lM5 (Eq.symm hl))
 refine⟨_,xs[y],e,by rw[lq6,hl],by rw[lG3,lA9 hy'];rfl,?_⟩
 have:=lO2 (λl=>l[y]?) q
 simp only[Di,lG3,lA9 hy',List.getElem?_range hy,lK1]at this;exact lK2 this
theorem Ue.len(r:Ue kr h w B σ):∃ds:List D,σ[kr]? =some (.list ds)/\ds.length=h:=by
 obtain⟨xs,e,q⟩:=r.ex;have hl:xs.length=h:=by have:=lO2 List.length q;simpa [Di]using this
 exact⟨_,e,by rw[lq6,hl]⟩
theorem zAg{k:Nat}{ds:List D}{i:Nat}{d:D}{S:St}(hk:S.sto[k]? =some (.list ds))(hd:ds[i]? =some d)(hl:ds.length<=2 ^ 62):Aj (.ref k) (.int (i:Int)) S=.ok d S:=by
 have hi:=(lq2 hd).1;rw[Oi hk (by exact(cast_nn _)) (by exact(F1 hi)) hl];congr 1
 rw[lA9 hi]at hd;exact lK2 hd
theorem zAl(r:Ue kr h w B σ){y:Nat}(hy:y<h){loc:Bm}:∃z:Str,Aj (.ref kr) (.int (y:Int)) ⟨loc,σ⟩=.ok (.str z) ⟨loc,σ⟩/\cl z=(List.range w).map (B y)/\z.length=w:=by
 obtain⟨ds,z,e,hl,hd,hz⟩:=r.row hy;have:=r.hh
 exact⟨z,zAg (S:=⟨loc,σ⟩) e hd (by exact Cp (Ac x0 (.n 4611686018427387904)) [eq1 x0 x1,Ac x1 (.n 5000)] rT hl this),hz,by rw[←Bb,hz];simp⟩
noncomputable def zN1:Option Nat->Str
 |none=>⟨#[]⟩
 |some c=>⟨#[c]⟩
theorem zKW(h:cl z=l)(hi:i<z.cps.size)(hi2:i<l.length):z.cps[i]=l[i]:=by
 subst h;exact(Array.getElem_toList (xs:=z.cps) (i:=i) hi).symm
theorem Ky(r:Ue kr h w B σ)(y x:Nat):Dx [.ref kr,.int (y:Int),.int (x:Int)] ⟨loc,σ⟩=.ok (.str (zN1 (U9 h w B y x))) ⟨loc,σ⟩:=by
 have h1:=r.hh;have h2:=r.hw;obtain⟨ds,e,hl⟩:=r.len;refine Bg (Bu rfl ?_)
 unfold Ra;generalize hb:Dk Br [0,1,2] [.ref kr,.int (y:Int),.int (x:Int)]=lb
 have b0:lb 0=some (.ref kr):=by rw[←hb];rfl
 have b1:lb 1=some (.int (y:Int)):=by rw[←hb];rfl
 have b2:lb 2=some (.int (x:Int)):=by rw[←hb];rfl
 refine Al (zKS (zHB (Aa (B8 (t:=decide ((y:Int)<ds.length)) (A7 b1) (A5 (A5 (A7 b0) rfl) (E6 e (by exact Cp (Ae x0 (.n 4611686018427387904)) [Ac x1 (.n 5000),eq1 x0 x1] rT h1 hl))) rfl rfl) ?_)))
 by_cases hy:y<h
 ·rw[lO6 (lL1 (by exact Int.lt_of_lt_of_le (F1 hy) (Int.le_of_eq (Eq.symm (M9 hl)))))];obtain⟨z,ez,hz,hzl⟩:=zAl r hy (loc:=lb)
  refine Aa (B8 (t:=decide ((x:Int)<z.length)) (A7 b2) (A5 (A5 (Ab (A7 b0) (A7 b1) ez) rfl) (Bg (zL7.mpr ⟨by exact Cp (Ae x0 (.n 4611686018427387904)) [Ac x1 (.n 5000),eq1 x0 x1] rT h2 hzl,rfl,rfl⟩))) rfl rfl) ?_
  by_cases hx:x<w
  ·rw[lO6 (lL1 (by exact Int.lt_of_lt_of_le (F1 hx) (Int.le_of_eq (Eq.symm (M9 hzl)))))];refine Al (Wb (Mg (Aa (Ab (A7 b0) (A7 b1) ez) (Aa (A7 b2) ((zEP (by exact(cast_nn _)) (by exact Int.lt_of_lt_of_le (F1 hx) (Int.le_of_eq (Eq.symm (M9 hzl)))) (by exact Cp (Ac x0 (.n 4611686018427387904)) [Ac x1 (.n 5000),eq1 x0 x1] rT h2 hzl)).mpr (Aa rfl ?_))))))
   refine⟨?_,rfl⟩
   show D.str _=_
   rw[Hh hy hx];congr 1
   show(⟨#[z.cps[(x:Int).toNat]'_]⟩:Str)=⟨#[B y x]⟩
   have:z.cps[(x:Int).toNat]'(by show _<z.length;exact lF5 hx (lM5 (Eq.symm hzl)))=B y x:=by
    rw[zKW hz (by show _<z.length;exact lF5 hx (lM5 (Eq.symm hzl))) (by simp;exact hx)]
    simp
   rw[this]
  ·rw[lO5 (λq=>hx (by have:=lH3 q;exact Jf (Int.lt_of_lt_of_le this (Int.le_of_eq (M9 hzl)))))]
   refine Aa rfl (Aa rfl ⟨?_,rfl⟩)
   rw[On (.inr (by exact(lN7.mp hx)))];rfl
 ·rw[lO5 (λq=>hy (by have:=lH3 q;exact Jf (Int.lt_of_lt_of_le this (Int.le_of_eq (M9 hl)))))]
  refine Aa rfl (Aa rfl ⟨?_,rfl⟩)
  rw[On (.inl (by exact(lN7.mp hy)))];rfl
theorem zAL(o:Option Nat)(c:Nat):(cl (zN1 o)==[c])=(o==some c):=by
 cases o with
 |none=>rfl
 |some d=>show([d]==[c])=(some d==some c);simp
theorem zA0(r:Ue kr h w B σ)(y x:Nat):∃b,Jd [.ref kr,.int (y:Int),.int (x:Int)] ⟨loc,σ⟩=.ok (.bool b) ⟨loc,σ⟩/\(b=true↔zDd (U9 h w B) y x):=by
 refine⟨(U9 h w B y x==some 43)&&((U9 h w B y (x+1)==some 45)&&(U9 h w B (y+1) x==some 124)),Bg (Bu rfl ?_),?_⟩
 ·unfold Vs;generalize hb:Dk Br [0,1,2] [.ref kr,.int (y:Int),.int (x:Int)]=lb
  have b0:lb 0=some (.ref kr):=by rw[←hb];rfl
  have b1:lb 1=some (.int (y:Int)):=by rw[←hb];rfl
  have b2:lb 2=some (.int (x:Int)):=by rw[←hb];rfl
  refine Al (Wb (zDM (Aa (Ab (A5 (A5 (A7 b0) (A5 (A5 (A7 b1) (A5 (A5 (A7 b2) rfl) rfl)) rfl)) (Ky r y x)) rfl (Bg (zB3 ⟨lO2 D.bool (zAL _ 43),rfl⟩))) (Kn.mpr ?_))))
  by_cases q1:(U9 h w B y x==some 43)=true
  ·rw[lO6 q1,q1];refine zDM (Aa (Ab (A5 (A5 (A7 b0) (A5 (A5 (A7 b1) (A5 (A5 (Ab (A7 b2) rfl rfl) rfl) rfl)) rfl)) (Ky r y (x+1))) rfl (Bg (zB3 ⟨lO2 D.bool (zAL _ 45),rfl⟩))) (Kn.mpr ?_))
   by_cases q2:(U9 h w B y (x+1)==some 45)=true
   ·rw[lO6 q2,q2];exact Aa (Ab (A5 (A5 (A7 b0) (A5 (A5 (Ab (A7 b1) rfl rfl) (A5 (A5 (A7 b2) rfl) rfl)) rfl)) (Ky r (y+1) x)) rfl (Bg (zB3 ⟨lO2 D.bool (zAL _ 124),rfl⟩))) (Aa rfl ⟨rfl,rfl⟩)
   ·rw[lO5 q2,(Bool.not_eq_true _).mp q2];exact Aa rfl ⟨rfl,rfl⟩
  ·rw[lO5 q1,(Bool.not_eq_true _).mp q1];exact Aa rfl ⟨rfl,rfl⟩
 ·simp only[lH6,lN8];exact⟨λ⟨a,b,c⟩=>⟨a,b,c⟩,λ⟨a,b,c⟩=>⟨a,b,c⟩⟩
end
section
variable {R C:Nat}{bs:List Bn}{Y X:Nat->Nat}{tx:Bn->Nat->Nat->Nat}{kr:Nat}{B:Bo}{σ:C3}
structure zON (kr y x:Nat)(l:Bm):Prop where
 l0:l 0=some (.ref kr)
 l1:l 1=some (.int (y:Int))
 l2:l 2=some (.int (x:Int))
theorem zDa{h w v c y x m:Nat}{mc:Mn Bool}{mb:Mn Bool}{sg:Nat->Option Nat}{e0 e1:Nat}{loc:Bm}{A:Bm->Prop}{Q:Fl->St->Prop}(he:e0<=e1)(hb:e1<=5000)(hA:A loc)(hv:loc v=some (.int (e0:Int)))
  (hAu:∀l d,A l->A (Be l v d)) (hmc:∀l (i:Nat),A l->l v=some (.int (i:Int))->mc ⟨l,σ⟩=.ok (!(sg i==some c)) ⟨l,σ⟩) (hmb:∀l (i:Nat),A l->l v=some (.int (i:Int))->mb ⟨l,σ⟩=.ok (sg i==none) ⟨l,σ⟩)
  (hin:∀i,e0<=i->i<e1->∃d,sg i=some d/\d≠c) (hat:sg e1=some c) (hQ:∀l,A l->l v=some (.int (e1:Int))->Q .next ⟨l,σ⟩):
  W (Gn mc (Ag (Ex mb (Ag botM (A8 .next)) (A8 .next)) (Ag (Af (Ad B0 (A6 v) (A8 (.int 1))) (Ah v)) (A8 .next)))) ⟨loc,σ⟩ Q:=by
 refine Mh (λn st'=>∃i:Nat,st'.sto=σ/\A st'.loc/\st'.loc v=some (.int (i:Int))/\e0<=i/\i<=e1/\n=e1 - i) ?_ 1000000 (e1 - e0) ⟨loc,σ⟩ (by exact Cp (Ae x0 (.n 1000000)) [Ac x1 (.n 5000),Ac x0 x1] rT hb (Eb _ _)) ⟨e0,rfl,hA,hv,lN4 _,he,rfl⟩
 rintro n ⟨l,σ1⟩ ⟨i,hσ,ha,hi,i0,i1,hn⟩
 have hσ:σ1=σ:=hσ
 subst hσ;refine Aa (hmc l i ha hi) ?_
 rcases lF6 i1 with q|q
 ·obtain⟨d,hd,hne⟩:=hin i i0 q;rw[lO6 (by rw[hd];simpa using hne)]
  refine Da (b:=false) (by rw[hmb l i ha hi,hd];rfl) (λz=>by cases z) λ_=>Aa rfl (Ax (run_set (Ab (A7 hi) rfl rfl)) (Aa rfl ⟨e1 - (i+1),by exact Mr (Ae x1 x0) [Cz x0 x2,Ac x3 (.a x2 x4),eq1 (.a x1 (.a x4 (.n 1))) x3] rT hn (Ao _ _) (Aq (q)),i+1,rfl,hAu _ _ ha,?_,Nat.le_add_right_of_le i0,q,rfl⟩))
  show Be l v _ v=_
  rw[zKh,beq_self_eq_true];rfl
 ·subst q;rw[lO5 (by rw[hat];simp)]
  exact hQ l ha hi
theorem zDm:Ho (.str (zN1 o)) (.str ⟨#[c]⟩) S=.ok (.bool (!(o==some c))) S:=
 Bg (Vo.mpr ⟨lO2 D.bool (by rw[bne,←zAL o c];rfl),rfl⟩)
theorem zC8:F2 (.str (zN1 o)) (.str (Str.ofString "")) S=.ok (.bool (o==none)) S:=
 Bg (zB3 ⟨lO2 D.bool (by cases o<;>rfl),rfl⟩)
theorem zHS(N:Jp R C bs Y X)(p:Sf bs Y X tx B)(r:Ue kr (Y R+1) (X C+1) B σ){b:Bn}(m:b∈bs){loc:Bm}:Mp [.ref kr,.int (Y b.t:Int),.int (X b.l:Int)] ⟨loc,σ⟩=.ok (qD (qB Y X b)) ⟨loc,σ⟩:=by
 have g:=N.of m;have h1:=g.nx;have h2:=g.ny;have h3:=N.bot m;have r1:=r.hh;have r2:=r.hw;refine Bg (Bu rfl ?_)
 unfold W9;generalize hb:Dk Br [0,1,2] [.ref kr,.int (Y b.t:Int),.int (X b.l:Int)]=lb
 have A0:zON kr (Y b.t) (X b.l) lb:=⟨by rw[←hb];rfl,by rw[←hb];rfl,by rw[←hb];rfl⟩
 refine Ax (run_set (Ab (A7 A0.l2) rfl rfl)) (Al ?_)
 refine zDa (c:=124) (y:=0) (x:=0) (m:=0) (h:=0) (w:=0) (e0:=X b.l+1) (e1:=X b.r) (sg:=λi=>U9 (Y R+1) (X C+1) B (Y b.t+1) i) (A:=zON kr (Y b.t) (X b.l)) (by exact Cp (Ac (.a x0 (.n 1)) x1) [Ac (.a x0 (.n 2)) x1] rT h1) (lM7 (lM6 h3.2) r2) ⟨A0.l0,A0.l1,A0.l2⟩ rfl (λl d a=>⟨a.l0,a.l1,a.l2⟩)
  (λl i a hi=>B8 (A5 (A5 (A7 a.l0) (A5 (A5 (Ab (A7 a.l1) rfl rfl) (A5 (A5 (A7 hi) rfl) rfl)) rfl)) (Ky r (Y b.t+1) i)) rfl zDm rfl)
  (λl i a hi=>B8 (A5 (A5 (A7 a.l0) (A5 (A5 (Ab (A7 a.l1) rfl rfl) (A5 (A5 (A7 hi) rfl) rfl)) rfl)) (Ky r (Y b.t+1) i)) rfl zC8 rfl)
  (λi i0 i1=>⟨32,by show U9 _ _ _ _ _=_;rw[Hh (by exact Ck (Ae (.a x0 (.n 1)) (.a x1 (.n 1))) [Ac (.a x0 (.n 2)) x2,Ae x2 (.a x1 (.n 1))] rT h2 h3.1) (lM9 i1 h3.2),p.blank m ⟨by exact lI5 _,by exact Cp (Ae (.a x0 (.n 1)) x1) [Ac (.a x0 (.n 2)) x1] rT h2,i0,i1⟩ (.inl rfl)],by decide⟩)
  (by show U9 _ _ _ _ _=_;rw[Hh (by exact Ck (Ae (.a x0 (.n 1)) (.a x1 (.n 1))) [Ac (.a x0 (.n 2)) x2,Ae x2 (.a x1 (.n 1))] rT h2 h3.1) (h3.2),p.side N m (.inr rfl)]) λl1 a1 v1=>?_
 refine Ax (run_set (Ab (A7 a1.l1) rfl rfl)) (Al ?_)
 refine zDa (c:=45) (y:=0) (x:=0) (m:=0) (h:=0) (w:=0) (e0:=Y b.t+1) (e1:=Y b.b) (sg:=λi=>U9 (Y R+1) (X C+1) B i (X b.l+1)) (A:=λl=>zON kr (Y b.t) (X b.l) l/\l 3=some (.int (X b.r:Int))) (by exact Cp (Ac (.a x0 (.n 1)) x1) [Ac (.a x0 (.n 2)) x1] rT h2) (lM7 (lM6 h3.1) r1) ⟨⟨a1.l0,a1.l1,a1.l2⟩,v1⟩ rfl (λl d a=>⟨⟨a.1.l0,a.1.l1,a.1.l2⟩,a.2⟩)
  (λl i a hi=>B8 (A5 (A5 (A7 a.1.l0) (A5 (A5 (A7 hi) (A5 (A5 (Ab (A7 a.1.l2) rfl rfl) rfl) rfl)) rfl)) (Ky r i (X b.l+1))) rfl zDm rfl)
  (λl i a hi=>B8 (A5 (A5 (A7 a.1.l0) (A5 (A5 (A7 hi) (A5 (A5 (Ab (A7 a.1.l2) rfl rfl) rfl) rfl)) rfl)) (Ky r i (X b.l+1))) rfl zC8 rfl)
  (λi i0 i1=>⟨32,by show U9 _ _ _ _ _=_;rw[Hh (lM9 i1 h3.1) (by exact Ck (Ae (.a x0 (.n 1)) (.a x1 (.n 1))) [Ac (.a x0 (.n 2)) x2,Ae x2 (.a x1 (.n 1))] rT h1 h3.2),p.blank m ⟨i0,i1,by exact lI5 _,by exact Cp (Ae (.a x0 (.n 1)) x1) [Ac (.a x0 (.n 2)) x1] rT h1⟩ (.inr rfl)],by decide⟩)
  (by show U9 _ _ _ _ _=_;rw[Hh (h3.1) (by exact Ck (Ae (.a x0 (.n 1)) (.a x1 (.n 1))) [Ac (.a x0 (.n 2)) x2,Ae x2 (.a x1 (.n 1))] rT h1 h3.2),p.top N m (.inr rfl)]) λl2 a2 v2=>?_
 exact Al (Wb (Aa (Kj (ds:=[_,_,_,_]) (A5 (A7 a2.1.l1) (A5 (A5 (A7 a2.1.l2) (A5 (A5 (A7 v2) (A5 (A5 (A7 a2.2) rfl) rfl)) rfl)) rfl)) (by decide:4<=sizeLine)) (Aa rfl ⟨rfl,rfl⟩)))
end
end
section
open Builtin.Str
theorem Wc{α:Type}{l:List α}:∀{m:List α},l.Nodup->(∀a,a∈l->a∈m)->∃r,m.Perm (l++r):=by
 induction l with
 |nil=>intro m _ _;exact⟨m,.refl _⟩
 |cons a l ih=>
  intro m nd h;obtain⟨m1,m2,e⟩:=List.append_of_mem (h a lq1);rw[List.nodup_cons]at nd;have p:m.Perm (a::(m1++m2)):=e▸List.perm_middle
  obtain⟨r,pr⟩:=ih (m:=m1++m2) nd.2 λb mb=>by
   have:=p.mem_iff.mp (h b (lq4 _ mb))
   rcases lL5.mp this with q|q
   ·exact absurd (q▸mb) nd.1
   ·exact q
  exact⟨r,p.trans (.cons a pr)⟩
theorem Il{α:Type}{l m:List α}(nd:l.Nodup)(h:∀a,a∈l->a∈m):l.length<=m.length:=by
 obtain⟨r,p⟩:=Wc nd h;rw[p.length_eq,lq7];exact Cp (Ac x0 (.a x0 x1)) [Ac (.n 0) x1] rT (lq5 _)
theorem zAA{α:Type}{l m:List α}(nl:l.Nodup)(nm:m.Nodup)(h:∀a,a∈l->a∈m)(h':∀a,a∈m->a∈l):m.Perm l:=by
 obtain⟨r,p⟩:=Wc nl h
 cases r with
 |nil=>rw[lJ0]at p;exact p
 |cons c r=>
  have:=p.nodup_iff.mp nm
  exact absurd rfl ((lG5.mp this).2.2 c (h' c (p.mem_iff.mpr (lC6 _ lq1))) c lq1)
noncomputable def s3 (σ:C3)(ks:List (List Int))(fo wa:List D):C3:=σ++[.dict ks,.list fo,.list wa]
section
variable {σ:C3}{ks ks':List (List Int)}{fo wa fo' wa':List D}
theorem zMc:(s3 σ ks fo wa)[σ.length]? =some (.dict ks):=by unfold s3;rw[lA3 (lN4 _),lN1];rfl
theorem zLQ:(s3 σ ks fo wa)[σ.length+1]? =some (.list fo):=by unfold s3;rw[lA3 (by exact lI4 _ _),lB2];rfl
theorem zJY:(s3 σ ks fo wa)[σ.length+2]? =some (.list wa):=by unfold s3;rw[lA3 (by exact lI4 _ _),lB2];rfl
theorem zNN:(s3 σ ks fo wa).set σ.length (.dict ks')=s3 σ ks' fo wa:=by unfold s3;rw[lC8 _ _ (lN4 _),lN1];rfl
theorem zNE:(s3 σ ks fo wa).set (σ.length+1) (.list fo')=s3 σ ks fo' wa:=by unfold s3;rw[lC8 _ _ (by exact lI4 _ _),lB2];rfl
theorem zJA:(s3 σ ks fo wa).set (σ.length+2) (.list wa')=s3 σ ks fo wa':=by unfold s3;rw[lC8 _ _ (by exact lI4 _ _),lB2];rfl
theorem zJ2:Cq σ (s3 σ ks fo wa):=.app _ _
end
theorem zBN{k:Nat}{ks:List (List Int)}{y x:Int}{S:St}(h:S.sto[k]? =some (.dict ks)):Pf (.tup [.int y,.int x]) (.ref k) S=.ok (.bool (!ks.contains [y,x])) S:=
 A5 (b:=ks.contains [y,x]) ((Jn h).trans rfl) rfl
theorem zHp{k:Nat}{ks:List (List Int)}{y x:Int}{mv mo mi:Mn D}{v:D}{S:St}(hv:mv S=.ok v S)(ho:mo S=.ok (.ref k) S)(hi:mi S=.ok (.tup [.int y,.int x]) S)(h:S.sto[k]? =some (.dict ks))(hl:ks.length<=sizeLine):J1 mv mo mi S=.ok .next ⟨S.loc,S.sto.set k (.dict (Qx ks [y,x]))⟩:=
 A5 hv (A5 ho (A5 hi ((Jn h).trans (C8 hl))))
theorem zA8{k:Nat}{ds:List D}{d:D}{mo:Mn D}{S:St}(ho:mo S=.ok (.ref k) S)(h:S.sto[k]? =some (.list (ds++[d])))(hl:ds.length+1<=sizeLine):Af mo (Dh Yk) S=.ok d ⟨S.loc,S.sto.set k (.list ds)⟩:=by
 refine A5 ho ((Bf h).trans ((Bf h).trans ?_))
 refine(C8 (by rw[lq7];exact hl)).trans ?_
 rw[List.getLast?_concat,List.dropLast_concat];rfl
theorem Hz{ms:Mn (List D)}{ds:List D}{l:Bm}{σ:C3}(e:ms ⟨l,σ⟩=.ok ds ⟨l,σ⟩)(h:ds.length<=sizeLine):Cs ms ⟨l,σ⟩=.ok (.ref σ.length) ⟨l,σ++[.list ds]⟩:=Bg (Zo.mpr (Aa e ⟨h,rfl,rfl⟩))
theorem zBb{l:Bm}{σ:C3}:T7 (D6 (A9 (A8 (.int 0)) (A9 (A8 (.int 0)) Ai))) (A8 (.bool true)) ⟨l,σ⟩=.ok (.ref σ.length) ⟨l,σ++[.dict [[0,0]]]⟩:=by
 refine A5 (b:=D.ref σ.length) (st1:=⟨l,σ++[.dict []]⟩) rfl (A5 (b:=D.tup [.int 0,.int 0]) (st1:=⟨l,σ++[.dict []]⟩) rfl (A5 (b:=D.bool true) (st1:=⟨l,σ++[.dict []]⟩) rfl (A5 (b:=Fl.next) (st1:=⟨l,σ++[.dict [[0,0]]]⟩) ?_ rfl)))
 refine(Jn (st:=⟨l,σ++[.dict []]⟩) (k:=σ.length) (ks:=[]) lq3).trans ?_
 show Re.ok Fl.next (⟨l,(σ++[PO.dict []]).set σ.length (.dict [[0,0]])⟩:St)=_
 rw[lC8 _ _ (lN4 _),lN1];rfl
theorem zKq{i:Nat}{body:Mn Fl}{d1 d2:D}{loc:Bm}{σ:C3}{Q:Fl->St->Prop}(h:W body ⟨Be loc i d1,σ⟩ λfl st1=>fl=.next/\W body ⟨Be st1.loc i d2,st1.sto⟩ λfl st2=>fl=.next/\Q .next st2):W (By (As i) (λ_=>True) body [d1,d2]) ⟨loc,σ⟩ Q:=by
 obtain⟨fl,st1,e,rfl,fl2,st2,e2,rfl,q⟩:=h;have a1:By (As i) (λ_=>True) body [d1,d2] ⟨loc,σ⟩=By (As i) (λ_=>True) body [d2] st1:=N9 (st:=⟨loc,σ⟩) trivial rfl e
 have a2:By (As i) (λ_=>True) body [d2] st1=By (As i) (λ_=>True) body [] st2:=N9 trivial rfl e2
 exact⟨.next,st2,a1.trans (a2.trans (by rw[Tq,lO6 trivial])),q⟩
section
variable {R C:Nat}{bs:List Bn}{Y X:Nat->Nat}{tx:Bn->Nat->Nat->Nat}{kr:Nat}{B:Bo}{σ:C3}
noncomputable def zIf (Y X:Nat->Nat)(b:Bn):List Int:=[(Y b.t:Int),(X b.l:Int)]
noncomputable def zCV (Y X:Nat->Nat)(b:Bn):D:=.tup [.int (Y b.t:Int),.int (X b.l:Int)]
structure Sr (bs:List Bn)(Y X:Nat->Nat)(fo wa:List Bn)(ks:List (List Int)):Prop where
 nd:(fo++wa).Nodup
 sub:∀b,b∈fo++wa->b∈bs
 key:∀n,n∈ks↔∃b,b∈fo++wa/\n=zIf Y X b
 kl:ks.length<=(fo++wa).length
theorem Jp.inj(N:Jp R C bs Y X){a b:Bn}(ma:a∈bs)(mb:b∈bs)(h1:Y a.t=Y b.t)(h2:X a.l=X b.l):a=b:=by
 have ga:=N.of ma;have gb:=N.of mb;have hq1:=ga.tb;have hq2:=ga.bR;have hq3:=ga.lr;have hq4:=ga.rC;have hq5:=gb.tb;have hq6:=gb.bR;have hq7:=gb.lr;have hq8:=gb.rC;have e1:a.t=b.t:=by
  rcases lH1 a.t b.t with q|q|q
  ·have:=N.ly _ _ q (lM7 (lM6 hq5) hq6);exact Du (λZ=>An [_,_] [Cz x0 x1,Ac (.a x0 (.n 2)) x1] rT h1 this) (λZ=>An [_,_] [Ae x1 x0,Ae x0 x1] rT Z q)
  ·exact q
  ·have:=N.ly _ _ q (lM7 (lM6 hq1) hq2);exact Du (λZ=>An [_,_] [Ae x1 x0,Ae x0 x1] rT Z q) (λZ=>An [_,_] [eq1 x0 x1,Ac (.a x1 (.n 2)) x0] rT h1 this)
 have e2:a.l=b.l:=by
  rcases lH1 a.l b.l with q|q|q
  ·have:=N.lx _ _ q (lM7 (lM6 hq7) hq8);exact Du (λZ=>An [_,_] [Cz x0 x1,Ac (.a x0 (.n 2)) x1] rT h2 this) (λZ=>An [_,_] [Ae x1 x0,Ae x0 x1] rT Z q)
  ·exact q
  ·have:=N.lx _ _ q (lM7 (lM6 hq3) hq4);exact Du (λZ=>An [_,_] [Ae x1 x0,Ae x0 x1] rT Z q) (λZ=>An [_,_] [eq1 x0 x1,Ac (.a x1 (.n 2)) x0] rT h2 this)
 exact N.meet ma mb ⟨lF3 (lM5 e1) hq5,lF3 (lM5 (Eq.symm e1)) hq1,lF3 (lM5 e2) hq7,lF3 (lM5 (Eq.symm e2)) hq3⟩
noncomputable def Xp:Mn Fl:=(Ag (Ex (Oa (C1 Pf (A6 6) (A6 1)) (Af (Af (A9 (A6 0) (A9 (Ad Aj (A6 6) (A8 (.int 0))) (A9 (Ad Aj (A6 6) (A8 (.int 1))) Ai))) Jd) B5)) (Ag (J1 (A8 (.bool true)) (A6 1) (A6 6))
 (Ag (Af (Af (A6 3) (Dh λk=>Af (A6 6) (Bt k))) Ct)
 (A8 .next))) (A8 .next))
 (A8 .next))
theorem zMR{y x:Nat}{b:Bn}(h:[(y:Int),(x:Int)]=zIf Y X b):Y b.t=y/\X b.l=x:=by
 unfold zIf at h;simp only[lJ1,and_true]at h;exact⟨Nh (Kl (λZ=>Az [_,_] [Ae x1 x0,eq1 x0 x1] rT Z h.1) (λZ=>Az [_,_] [Ae x0 x1,Cz x0 x1] rT Z h.1)),Nh (Kl (λZ=>Az [_,_] [Ae x1 x0,eq1 x0 x1] rT Z h.2) (λZ=>Az [_,_] [Ae x0 x1,Cz x0 x1] rT Z h.2))⟩
theorem zAR(N:Jp R C bs Y X)(p:Sf bs Y X tx B)(r:Ue kr (Y R+1) (X C+1) B σ)(hbs:bs.length<=400){fo wa:List Bn}{ks:List (List Int)}{F:List D}(S:Sr bs Y X fo wa ks){y x:Nat}(H:zDd (U9 (Y R+1) (X C+1) B) y x->∃d,d∈bs/\Y d.t=y/\X d.l=x){loc:Bm}(l0:loc 0=some (.ref kr))(l1:loc 1=some (.ref σ.length))(l3:loc 3=some (.ref (σ.length+2)))(l6:loc 6=some (.tup [.int (y:Int),.int (x:Int)])):
  W Xp ⟨loc,s3 σ ks F (wa.map (zCV Y X))⟩ λfl st'=>fl=.next/\st'.loc=loc/\∃wa' ks',st'.sto=s3 σ ks' F (wa'.map (zCV Y X))/\Sr bs Y X fo wa' ks'/\(∀b,b∈fo++wa->b∈fo++wa')/\∀d,d∈bs->Y d.t=y->X d.l=x->d∈fo++wa':=by
 have hsl:(1000:Nat)<=sizeLine:=by decide
 have hl1:=Il S.nd S.sub;have hkl:=S.kl;unfold Xp;refine Al (zKS (zHB (Aa (B8 (t:=!ks.contains [(y:Int),(x:Int)]) (A7 l6) (A7 l1) (zBN zMc) rfl) ?_)))
 by_cases hk:ks.contains [(y:Int),(x:Int)]=true
 ·rw[lO5 (by rw[hk];decide)]
  refine Aa rfl (Aa rfl ⟨rfl,rfl,wa,ks,rfl,S,λ_ m=>m,λd md e1 e2=>?_⟩)
  obtain⟨b,mb,eb⟩:=(S.key _).mp (lC3.mp hk);obtain⟨q1,q2⟩:=zMR eb;rw[N.inj md (S.sub b mb) (by exact Du (λZ=>An [_,_,_] [Ae x0 x1,Cz x0 x2,eq1 x1 x2] rT Z e1 q1) (λZ=>An [_,_,_] [Ae x1 x0,eq1 x0 x2,Cz x1 x2] rT Z e1 q1)) (by exact Du (λZ=>An [_,_,_] [Ae x0 x1,Cz x0 x2,eq1 x1 x2] rT Z e2 q2) (λZ=>An [_,_,_] [Ae x1 x0,eq1 x0 x2,Cz x1 x2] rT Z e2 q2))];exact mb
 ·rw[lO6 (by rw[(Bool.not_eq_true _).mp hk];rfl)]
  obtain⟨t,et,ht⟩:=zA0 (r.kp zJ2.kp) y x (loc:=loc) (σ:=s3 σ ks F (wa.map (zCV Y X)))
  refine Aa (A5 (A5 (A5 (A7 l0) (A5 (A5 (Ab (A7 l6) rfl rfl) (A5 (A5 (Ab (A7 l6) rfl rfl) rfl) rfl)) rfl)) et) rfl) ?_
  have nk:∀b,b∈fo++wa->¬(Y b.t=y/\X b.l=x):=λb mb e=>hk (lC3.mpr ((S.key _).mpr ⟨b,mb,by unfold zIf;rw[e.1,e.2]⟩))
  cases t with
  |false=>
   refine Aa rfl (Aa rfl ⟨rfl,rfl,wa,ks,rfl,S,λ_ m=>m,λd md e1 e2=>?_⟩)
   have:=ht.mpr (e1▸e2▸p.begins N md)
   cases this
  |true=>
   obtain⟨d,md,d1,d2⟩:=H (ht.mp rfl);have nd:d∉fo++wa:=λm=>nk d m ⟨d1,d2⟩
   have hlt:(fo++wa).length<bs.length:=by
    have:(d::(fo++wa)).Nodup:=List.nodup_cons.mpr ⟨nd,S.nd⟩
    exact Il this λa m=>by
     rcases lL5.mp m with q|q
     ·rw[q];exact md
     ·exact S.sub a q
   rw[lq7]at hlt hkl;rw[lO6 rfl];refine Ax (zHp rfl (A7 l1) (A7 l6) zMc (by exact Mr (Ac x1 x0) [Ac x2 (.n 400),Ac (.n 1000) x0,Ac x1 (.a x3 x4),Ae (.a x3 x4) x2] rT hbs hsl hkl hlt)) ?_
   rw[zNN];refine Ax (Er (A7 l3) zJY (by rw[lq6];exact Cd (Ac x1 x0) [Ac x2 (.n 400),Ac (.n 1000) x0,Ae (.a x3 x1) x2,Ac (.n 0) x3] rT hbs hsl hlt (lq5 _)) (A7 l6)) (Aa rfl (Aa rfl ⟨rfl,rfl,wa++[d],ks++[[(y:Int),(x:Int)]],?_,?_,λb m=>?_,λe me e1 e2=>?_⟩))
   ·show(s3 σ _ F _).set _ _=_
    rw[zJA];unfold Qx;rw[lO5 hk,lJ5];unfold zCV;rw[List.map_singleton,d1,d2]
   ·refine⟨?_,?_,λn=>?_,?_⟩
    ·rw[←lq8];refine lG5.mpr ⟨S.nd,by simp,λa ma b mb e=>?_⟩
     rw[lq0 mb]at e;exact nd (e▸ma)
    ·intro b m;rw[←lq8]at m;rcases lJ6.mp m with q|q
     ·exact S.sub b q
     ·rw[lq0 q];exact md
    ·rw[←lq8,lJ6,S.key];constructor
     ·rintro(⟨b,mb,e⟩|q)
      ·exact⟨b,lD4 _ mb,e⟩
      ·exact⟨d,lC6 _ (lF1.mpr rfl),by rw[lq0 q];unfold zIf;rw[d1,d2]⟩
     ·rintro⟨b,mb,e⟩
      rcases lJ6.mp mb with q|q
      ·exact .inl ⟨b,q,e⟩
      ·right
       rw[e,lq0 q];unfold zIf;rw[d1,d2];exact lF1.mpr rfl
    ·simp only[lq7,lC5]at hkl ⊢;exact Ck (Ac (.a x0 (.n 1)) (.a x1 (.a x2 (.n 1)))) [Ac x0 (.a x1 x2)] rT hkl
   ·rw[←lq8];exact lD4 _ m
   ·rw[N.inj me md (by exact Du (λZ=>An [_,_,_] [Ae x1 x0,eq1 x0 x2,Cz x1 x2] rT Z d1 e1) (λZ=>An [_,_,_] [Ae x0 x1,Cz x0 x2,eq1 x1 x2] rT Z d1 e1)) (by exact Du (λZ=>An [_,_,_] [Ae x1 x0,eq1 x0 x2,Cz x1 x2] rT Z d2 e2) (λZ=>An [_,_,_] [Ae x0 x1,Cz x0 x2,eq1 x1 x2] rT Z d2 e2)),←lq8]
    exact lC6 _ (lF1.mpr rfl)
noncomputable def zNb (bs fo al:List Bn):Prop:=∀b,b∈fo->∀d,d∈bs->((d.t=b.t/\d.l=b.r)∨(d.t=b.b/\d.l=b.l))->d∈al
noncomputable def zFu (Y X:Nat->Nat)(b:Bn):D:=qD (qB Y X b)
noncomputable def Zy:Mn Fl:=(Ag (Af (Af (A6 3) (Dh Yk)) (Ah 4))
 (Ag (Af (Af (A9 (A6 0) (A9 (Ad Aj (A6 4) (A8 (.int 0))) (A9 (Ad Aj (A6 4) (A8 (.int 1))) Ai))) Mp) (Ah 5))
 (Ag (Af (Af (A6 2) (Dh λk=>Af (A6 5) (Bt k))) Ct)
 (Ag (Ex (C1 zCn (Af (A9 (A6 2) Ai) Cf) (Ad Ey (A8 (.int 20)) (A8 (.int 20)))) (Ag botM
 (A8 .next)) (A8 .next))
 (Ag (Af (Af (D6 (A9 (D6 (A9 (Ad Aj (A6 5) (A8 (.int 0))) (A9 (Ad Aj (A6 5) (A8 (.int 3))) Ai))) (A9 (D6 (A9 (Ad Aj (A6 5) (A8 (.int 2))) (A9 (Ad Aj (A6 5) (A8 (.int 1))) Ai))) Ai))) Bq) λsrc=>By (As 6) src.g Xp src.ds)
 (A8 .next))))))
structure SL (kr n:Nat)(l:Bm):Prop where
 l0:l 0=some (.ref kr)
 l1:l 1=some (.ref n)
 l2:l 2=some (.ref (n+1))
 l3:l 3=some (.ref (n+2))
theorem zEw(N:Jp R C bs Y X)(p:Sf bs Y X tx B)(r:Ue kr (Y R+1) (X C+1) B σ)(hbs:bs.length<=400){fo wa:List Bn}{b:Bn}{ks:List (List Int)}(S:Sr bs Y X fo (wa++[b]) ks)(hc:zNb bs fo (fo++(wa++[b]))){loc:Bm}(L:SL kr σ.length loc):
  W Zy ⟨loc,s3 σ ks (fo.map (zFu Y X)) ((wa++[b]).map (zCV Y X))⟩ λfl st'=>fl=.next/\SL kr σ.length st'.loc/\∃wa' ks',st'.sto=s3 σ ks' ((fo++[b]).map (zFu Y X)) (wa'.map (zCV Y X))/\Sr bs Y X (fo++[b]) wa' ks'/\(∀d,d∈fo++(wa++[b])->d∈(fo++[b])++wa')/\zNb bs (fo++[b]) ((fo++[b])++wa'):=by
 have hsl:(1000:Nat)<=sizeLine:=by decide
 have hl1:=Il S.nd S.sub;have mb:b∈bs:=S.sub b (by simp)
 simp only[lq7,lC5]at hl1;have S1:Sr bs Y X (fo++[b]) wa ks:=by
  have pm:(fo++(wa++[b])).Perm ((fo++[b])++wa):=by
   rw[lq8];exact List.Perm.append_left fo lC7
  exact⟨pm.nodup_iff.mp S.nd,λd m=>S.sub d (pm.mem_iff.mpr m),λn=>(S.key n).trans ⟨λ⟨d,m,e⟩=>⟨d,pm.mem_iff.mp m,e⟩,λ⟨d,m,e⟩=>⟨d,pm.mem_iff.mpr m,e⟩⟩,by rw[←pm.length_eq];exact S.kl⟩
 have sub1:∀d,d∈fo++(wa++[b])->d∈(fo++[b])++wa:=λd m=>by
  simp only[lJ6]at m ⊢;rcases m with q|q|q
  ·exact .inl (.inl q)
  ·exact .inr q
  ·exact .inl (.inr q)
 unfold Zy;rw[lJ5,List.map_singleton];refine Ax (run_set (zA8 (A7 L.l3) zJY (by rw[lq6];exact Cd (Ac (.a x1 (.n 1)) x0) [Ac x2 (.n 400),Ac (.n 1000) x0,Ac (.a x3 (.a x1 (.n 1))) x2,Ac (.n 0) x3] rT hbs hsl hl1 (lq5 _)))) ?_
 show W _ ⟨Be loc 4 _,(s3 σ ks _ _).set _ _⟩ _
 rw[zJA];refine Ax (run_set (A5 (A5 (A7 (i:=0) L.l0) (A5 (A5 (Ab rfl rfl rfl) (A5 (A5 (Ab rfl rfl rfl) rfl) rfl)) rfl)) (zHS N p (r.kp zJ2.kp) mb))) ?_
 refine Ax (Er (v:=zFu Y X b) (A7 (i:=2) L.l2) zLQ (by rw[lq6];exact Cd (Ac x1 x0) [Ac x2 (.n 400),Ac (.n 1000) x0,Ac (.a x1 (.a x3 (.n 1))) x2,Ac (.n 0) x3] rT hbs hsl hl1 (lq5 _)) rfl) ?_
 show W _ ⟨_,(s3 σ ks _ _).set _ _⟩ _
 rw[zNE,show fo.map (zFu Y X)++[zFu Y X b]=(fo++[b]).map (zFu Y X)by rw[lJ5];rfl]
 refine Da (b:=decide ((((fo++[b]).map (zFu Y X)).length:Int)>20*20)) (B8 (A5 (A5 (A7 (i:=2) L.l2) rfl) (E6 zLQ (by simp only[lq6,lq7,lC5];exact zE5 λZ=>An [(fo.length),(bs.length),(wa.length)] [Ac (.n 4611686018427387904) (.a x0 (.n 1)),Ac x1 (.n 400),Ac (.a x0 (.a x2 (.n 1))) x1,Ac (.n 0) x2] rT Z hbs hl1 (lq5 _)))) (Ab rfl rfl (En rfl)) rfl rfl) (λz=>by have:=lH3 z;simp only[lq6,lq7,lC5]at this;exact False.elim (Az [(↑fo.length),(↑bs.length),(↑wa.length)] [Ae (.m 20 (.n 20)) (.a x0 (.n 1)),Ac x1 (.n 400),Ac (.a x0 (.a x2 (.n 1))) x1,Ac (.n 0) x2] rT this (Cc hbs) (Cc hl1) (cast_nn _))) λ_=>Aa rfl ?_
 refine Al (Wb (Aa (A5 (b:=.tup [.tup [.int (Y b.t:Int),.int (X b.r:Int)],.tup [.int (Y b.b:Int),.int (X b.l:Int)]]) rfl rfl) ?_))
 refine zKq ((zAR (loc:=Be (Be (Be loc 4 (zCV Y X b)) 5 (qD (qB Y X b))) 6 (.tup [.int (Y b.t:Int),.int (X b.r:Int)])) N p r hbs S1 (y:=Y b.t) (x:=X b.r) (λhb=>?_) L.l0 L.l1 L.l3 rfl).mono ?_)
 ·obtain⟨d,md,e1,e2⟩:=p.beginsE N mb hb;exact⟨d,md,by rw[e1],by rw[e2]⟩
 rintro fl ⟨l1,σ1⟩ ⟨rfl,h1,wa1,ks1,h2,S2,sub2,c2⟩
 have h1:l1=_:=h1
 have h2:σ1=_:=h2
 subst h1 h2;refine⟨rfl,(zAR (loc:=Be (Be (Be (Be loc 4 (zCV Y X b)) 5 (qD (qB Y X b))) 6 (.tup [.int (Y b.t:Int),.int (X b.r:Int)])) 6 (.tup [.int (Y b.b:Int),.int (X b.l:Int)])) N p r hbs S2 (y:=Y b.b) (x:=X b.l) (λhb=>?_) L.l0 L.l1 L.l3 rfl).mono ?_⟩
 ·obtain⟨d,md,e1,e2⟩:=p.beginsS N mb hb;exact⟨d,md,by rw[e1],by rw[e2]⟩
 rintro fl ⟨l2,σ2⟩ ⟨rfl,h1,wa2,ks2,h2,S3,sub3,c3⟩
 have h1:l2=_:=h1
 have h2:σ2=_:=h2
 subst h1 h2;refine⟨rfl,Aa rfl ⟨rfl,⟨L.l0,L.l1,L.l2,L.l3⟩,wa2,ks2,rfl,S3,λd m=>sub3 d (sub2 d (sub1 d m)),λa ma d md hd=>?_⟩⟩
 rcases lJ6.mp ma with q|q
 ·exact sub3 d (sub2 d (sub1 d (hc a q d md hd)))
 ·rw[lq0 q]at hd;rcases hd with⟨e1,e2⟩|⟨e1,e2⟩
  ·exact sub3 d (c2 d md (by rw[e1]) (by rw[e2]))
  ·exact c3 d md (by rw[e1]) (by rw[e2])
theorem zBP(h:bs.Pairwise zMB):bs.Nodup:=h.imp λ{a b} q e=>by
 subst e;rcases q with q|q<;>lia
theorem Z8(N:Jp R C bs Y X)(p:Sf bs Y X tx B)(r:Ue kr (Y R+1) (X C+1) B σ)(hbs:bs.length<=400)(hR:1<=R)(hC:1<=C)(y0:Y 0=0)(x0:X 0=0){loc:Bm}{Q:D->St->Prop}
  (hQ:∀(fo:List Bn) (k:Nat) (σ':C3),fo.Perm bs->Cq σ σ'->σ'[k]? =some (.list (fo.map (zFu Y X)))->Q (.ref k) ⟨loc,σ'⟩):W (Kx [.ref kr]) ⟨loc,σ⟩ Q:=by
 have hsl:(1000:Nat)<=sizeLine:=by decide
 obtain⟨b0,m0,i0⟩:=N.til.cov 0 0 hR hC;have i0:(b0.t<=0/\0<b0.b)/\b0.l<=0/\0<b0.r:=i0
 have t0:b0.t=0:=by lia
 have l0:b0.l=0:=by lia
 refine Bu rfl ?_
 unfold P2;generalize hb:Dk Br [0] [.ref kr]=lb
 have a0:lb 0=some (.ref kr):=by rw[←hb];rfl
 obtain⟨t,et,ht⟩:=zA0 r 0 0 (loc:=lb)
 have hbeg:=p.begins N m0;rw[t0,l0,y0,x0]at hbeg;have ht:=ht.mpr hbeg;subst ht;refine Da (b:=false) (A5 (A5 (A5 (A5 (A7 a0) rfl) et) rfl) rfl) (λz=>by cases z) λ_=>Aa rfl ?_
 refine Ax (run_set zBb) (Ax (run_set (Hz rfl (by show 0<=_;lia))) (Ax (run_set (Hz (ds:=[.tup [.int 0,.int 0]]) rfl (by show 1<=_;lia))) ?_))
 have e2:(σ++[PO.dict [[0,0]]]).length=σ.length+1:=by rw[lq7];rfl
 have e3:(σ++[PO.dict [[0,0]]]++[PO.list []]).length=σ.length+2:=by rw[lq7,e2];rfl
 show W _ ⟨Be (Be (Be lb 1 (.ref σ.length)) 2 (.ref (σ++[PO.dict [[0,0]]]).length)) 3 (.ref (σ++[PO.dict [[0,0]]]++[PO.list []]).length),σ++[PO.dict [[0,0]]]++[PO.list []]++[PO.list [.tup [.int 0,.int 0]]]⟩ _
 rw[e2,e3,show σ++[PO.dict [[0,0]]]++[PO.list []]++[PO.list [.tup [.int 0,.int 0]]]=s3 σ [[0,0]] [] [zCV Y X b0]by unfold s3 zCV;rw[t0,l0,y0,x0];simp]
 refine Al ?_
 refine Mh (λn st'=>∃fo wa ks,SL kr σ.length st'.loc/\st'.sto=s3 σ ks (fo.map (zFu Y X)) (wa.map (zCV Y X))/\Sr bs Y X fo wa ks/\b0∈fo++wa/\zNb bs fo (fo++wa)/\n=bs.length - fo.length) ?_ 1000000 bs.length _ (by lia) ⟨[],[b0],[[0,0]],⟨a0,rfl,rfl,rfl⟩,rfl,⟨by simp,λb m=>by rw[lq0 m];exact m0,λn=>?_,by simp⟩,by simp,λb m=>(nomatch m),rfl⟩
 ·rintro n ⟨l,σ1⟩ ⟨fo,wa,ks,L,hσ,S,hb0,hc,hn⟩
  have hσ:σ1=_:=hσ
  subst hσ;have hl1:=Il S.nd S.sub;rw[lq7]at hl1;refine Aa (B8 (t:=decide ((((wa.map (zCV Y X)).length:Nat):Int)>0)) (A5 (A5 (A7 L.l3) rfl) (E6 zJY (by rw[lq6];lia))) rfl rfl rfl) ?_
  rw[lq6];rcases List.eq_nil_or_concat wa with q|⟨wa',b,q0⟩
  ·subst q;rw[lO5 (by simp)];refine Al (Wb (Aa (A7 L.l2) (Aa rfl ?_)))
   rw[lJ0]at hb0 hc;have hall:=N.all (P:=λb=>b∈fo) (λb mb e1 e2=>by rw[N.inj mb m0 (by rw[e1,t0]) (by rw[e2,l0])];exact hb0) λb d mb md hb hd=>hc b hb d md hd
   have nd:=S.nd;rw[lJ0]at nd;exact hQ fo _ _ (zAA (zBP N.til.ord) nd hall λa m=>S.sub a (lD4 _ m)) zJ2 zLQ
  ·have q:wa=wa'++[b]:=by rw[q0,List.concat_eq_append]
   clear q0;subst q;rw[lO6 (lL1 (by rw[lq7,lC5];show(0:Int)<_;lia))]
   have mb:b∈bs:=S.sub b (by simp)
   refine(zEw N p r hbs S hc L).mono ?_
   rintro fl ⟨l1,σ1⟩ ⟨rfl,L1,wa1,ks1,e1,S1,s1,c1⟩
   have hlf:=Il S1.nd S1.sub;simp only[lq7,lC5]at hl1 hlf;exact⟨bs.length - (fo++[b]).length,by rw[lq7,lC5];lia,fo++[b],wa1,ks1,L1,e1,S1,s1 b0 hb0,c1,rfl⟩
 ·constructor
  ·intro m;exact⟨b0,by simp,by rw[lq0 m];unfold zIf;rw[t0,l0,y0,x0];rfl⟩
  ·rintro⟨b,mb,e⟩
   rw[List.nil_append,lF1]at mb;rw[e,mb];unfold zIf;rw[t0,l0,y0,x0];exact lF1.mpr rfl
end
end
section
open Builtin.Str
section
variable {R C:Nat}{cs:List Cn}
theorem Lj(hR:1<=R)(h:i<kq b 0 R):∃t,t<R/\(b t=true∨t<=0)/\kq b 0 t=i:=by
 rcases Nat.eq_zero_or_pos i with q|q
 ·exact⟨0,hR,.inr (lN4 _),by rw[q];rfl⟩
 ·obtain⟨t,h1,h2,h3⟩:=zEO R i q h;exact⟨t,h1,.inl h2,h3⟩
theorem zIw(hb:b t=true∨t<=0):(kq b 0 x<=kq b 0 t/\kq b 0 t<kq b 0 y)↔(x<=t/\t<y):=by
 constructor
 ·rintro⟨h1,h2⟩
  refine⟨?_,?_⟩
  ·rcases lM8 t x with q|q
   ·have:=Nq hb q;exact X6 λZ=>An [_,_] [Ac x0 x1,Ae x1 x0] rT h1 this
   ·exact q
  ·rcases lM8 t y with q|q
   ·exact q
   ·have:=D9 (b:=b) (a:=0) t q;exact zE5 λZ=>An [_,_] [Ae x0 x1,Ac x1 x0] rT h2 this
 ·rintro⟨h1,h2⟩
  exact⟨D9 _ h1,Nq hb h2⟩
theorem Nf.tight(T:Nf R C (cs.map Cn.bn))(hR:1<=R)(hC:1<=C):Nf (kq (Av false cs) 0 R) (kq (Av true cs) 0 C) ((Dn cs).map Cn.bn):=by
 have key:∀(c:Cn) (t l:Nat),(Av false cs t=true∨t<=0)->(Av true cs l=true∨l<=0)->((c.mv (kq (Av false cs) 0) (kq (Av true cs) 0)).bn.In (kq (Av false cs) 0 t) (kq (Av true cs) 0 l)↔c.bn.In t l):=λc t l ht hl=>and_congr (zIw ht) (zIw hl)
 refine⟨λb m=>?_,λi j hi hj=>?_,?_,?_⟩
 ·obtain⟨d,md,rfl⟩:=lM4.mp m;obtain⟨c,mc,rfl⟩:=lM4.mp md;have g:=T.good c.bn (lM4.mpr ⟨c,mc,rfl⟩);exact⟨⟨Nq (.inl (Ni (w:=false) mc)) g.1.1,D9 _ g.1.2⟩,Nq (.inl (Ni (w:=true) mc)) g.2.1,D9 _ g.2.2⟩
 ·obtain⟨t,t1,t2,rfl⟩:=Lj hR hi;obtain⟨l,l1,l2,rfl⟩:=Lj hC hj;obtain⟨b,mb,hb⟩:=T.cov t l t1 l1;obtain⟨c,mc,rfl⟩:=lM4.mp mb;exact⟨_,lM4.mpr ⟨_,lM4.mpr ⟨c,mc,rfl⟩,rfl⟩,(key c t l t2 l2).mpr hb⟩
 ·have h1:cs.Pairwise λa b=>∀i j,a.bn.In i j->¬b.bn.In i j:=(lG6 (f:=Cn.bn)).mp T.dis
  refine(lG6 (f:=Cn.bn)).mpr ((lG6 (f:=Cn.mv _ _)).mpr (h1.imp_of_mem λ{a b} ma mb h i j ha hb=>?_))
  have ga:=T.good a.bn (lM4.mpr ⟨a,ma,rfl⟩);have hi:i<kq (Av false cs) 0 R:=lF5 ha.1.2 (D9 _ ga.1.2)
  have hj:j<kq (Av true cs) 0 C:=lF5 ha.2.2 (D9 _ ga.2.2)
  obtain⟨t,t1,t2,rfl⟩:=Lj hR hi;obtain⟨l,l1,l2,rfl⟩:=Lj hC hj;exact h t l ((key a t l t2 l2).mp ha) ((key b t l t2 l2).mp hb)
 ·have h1:cs.Pairwise zIY:=(lG6 (f:=Cn.bn)).mp T.ord
  exact(lG6 (f:=Cn.bn)).mpr ((lG6 (f:=Cn.mv _ _)).mpr (h1.imp_of_mem λ{a b} ma mb h=>Uv ma mb h))
structure zLf (R C:Nat)(cs:List Cn):Prop where
 row:∀i,i<R->Av false cs i=true
 col:∀i,i<C->Av true cs i=true
theorem zE8(h:Av w cs i=true):Av w (Dn cs) (kq (Av w cs) 0 i)=true:=by
 obtain⟨c,mc,hc⟩:=lH8.mp h;have hc:lo w c=i:=lN8.mp hc
 refine lH8.mpr ⟨_,lM4.mpr ⟨c,mc,rfl⟩,lN8.mpr ?_⟩
 subst hc
 cases w<;>rfl
theorem Nf.zero(T:Nf R C (cs.map Cn.bn))(hR:1<=R)(hC:1<=C)(w:Bool):Av w cs 0=true:=by
 obtain⟨b,mb,hb⟩:=T.cov 0 0 hR hC;obtain⟨c,mc,rfl⟩:=lM4.mp mb;refine lH8.mpr ⟨c,mc,lN8.mpr ?_⟩
 have hb:(c.t<=0/\0<c.b)/\c.l<=0/\0<c.r:=hb
 cases w
 ·show c.t=0;exact Du (λZ=>An [_] [Ae x0 (.n 0),Ac (.n 0) x0] rT Z (lq5 _)) (λZ=>An [_] [Ae (.n 0) x0,Ac x0 (.n 0)] rT Z hb.1.1)
 ·show c.l=0;exact Du (λZ=>An [_] [Ae x0 (.n 0),Ac (.n 0) x0] rT Z (lq5 _)) (λZ=>An [_] [Ae (.n 0) x0,Ac x0 (.n 0)] rT Z hb.2.1)
theorem Nf.tgt(T:Nf R C (cs.map Cn.bn))(hR:1<=R)(hC:1<=C):zLf (kq (Av false cs) 0 R) (kq (Av true cs) 0 C) (Dn cs):=by
 have go:∀(w:Bool) (M i:Nat),1<=M->i<kq (Av w cs) 0 M->Av w (Dn cs) i=true:=λw M i hM hi=>by
  obtain⟨t,t1,t2,rfl⟩:=Lj hM hi;rcases t2 with q|q
  ·exact zE8 q
  ·rw[show t=0 by exact Du (λZ=>An [_] [Ae x0 (.n 0),Ac (.n 0) x0] rT Z (lq5 _)) (λZ=>An [_] [Ae (.n 0) x0,Ac x0 (.n 0)] rT Z q)]
   exact zE8 (T.zero hR hC w)
 exact⟨λi=>go false R i hR,λi=>go true C i hC⟩
theorem zLf.same(t:zLf R C cs)(T:Nf R C (cs.map Cn.bn)):(kq (Av false cs) 0 R=R/\kq (Av true cs) 0 C=C)/\Dn cs=cs:=by
 have h1:=Sk (b:=Av false cs) (R:=R) λn _ h=>t.row n h
 have h2:=Sk (b:=Av true cs) (R:=C) λn _ h=>t.col n h
 refine⟨⟨h1 R (lN4 _),h2 C (lN4 _)⟩,?_⟩
 unfold Dn;have:∀c,c∈cs->Cn.mv (kq (Av false cs) 0) (kq (Av true cs) 0) c=c:=λc mc=>by
  have g:=T.good c.bn (lM4.mpr ⟨c,mc,rfl⟩);have g1:c.t<c.b:=g.1.1
  have g2:c.b<=R:=g.1.2
  have g3:c.l<c.r:=g.2.1
  have g4:c.r<=C:=g.2.2
  unfold Cn.mv;rw[h1 _ (lM7 (lM6 g1) g2),h1 _ g2,h2 _ (lM7 (lM6 g3) g4),h2 _ g4]
 rw[lE3 this,List.map_id']
theorem Bp.uniq(ok:Ti sp)(f:Bp sp F)(g:Bp sp G)(hl:F.length=G.length):F=G:=by
 have go:∀n k:Nat,k<=n->k<F.length->F.getD k 0=G.getD k 0:=by
  intro n
  induction n with
  |zero=>
   intro k hk _;rw[show k=0 by exact Du (λZ=>An [_] [Ae x0 (.n 0),Ac (.n 0) x0] rT Z (lq5 _)) (λZ=>An [_] [Ae (.n 0) x0,Ac x0 (.n 0)] rT Z hk),f.at0,g.at0]
  |succ n ih=>
   intro k hk hlt;rcases Nat.eq_zero_or_pos k with q|q
   ·rw[q,f.at0,g.at0]
   ·rw[f.step k q hlt,g.step k q (lF5 hlt (lM5 hl))];unfold Ny;rw[show((k:Int) - 1).toNat=k - 1 by exact Nh (Kl (λZ=>Az [_,_,_] [Ae x0 x1,Ac (.s x2 (.n 1)) x0,eq1 (.a x1 (.n 1)) x2] rT Z (Hy _) (O1 (H6 (Ac (.n 1) x0) [Ae (.n 0) x0] rT (F1 q)))) (λZ=>Az [_,_,_] [Ae x1 x0,eq1 x0 (.s x2 (.n 1)),Cz (.a x1 (.n 1)) x2] rT Z (D5 (H6 (Ac (.n 0) (.s x0 (.n 1))) [Ae (.n 0) x0] rT (F1 q))) (O1 (H6 (Ac (.n 1) x0) [Ae (.n 0) x0] rT (F1 q))))),ih (k - 1) (by exact Ck (Ac x1 x0) [Ac x2 (.a x0 (.n 1)),eq1 (.a x1 (.n 1)) x2] rT hk (Aq (q))) (by exact lF3 (Eb _ _) hlt)]
    refine Id _ _ λp s ms=>?_
    unfold Gr;split
    ·rename_i e;have:=ok s ms
     rw[ih s.1.toNat (by exact G9 (zNq (Ac x1 x0) [eq1 x3 x2,Ae x4 x3,Ac x2 (.a x0 (.n 1)),eq1 x1 x4] rT e this.2 (Cc hk) (D5 (this.1)))) (by exact Jf (zNq (Ae x1 x0) [eq1 x3 x2,Ae x4 x3,Ae x2 x0,eq1 x1 x4] rT e this.2 (F1 hlt) (D5 (this.1))))]
    ·rfl
 refine lH9 hl λk h1 h2=>?_
 have:=go k k (lN4 _) h1
 rw[lA2,lA2,lA9 h1,lA9 h2]at this;exact this
theorem J5.uniq(f:J5 cs R C Fy Fx)(g:J5 cs R C Gy Gx):Gy=Fy/\Gx=Fx:=
 ⟨Bp.uniq (Nd (w:=false) λc m=>(f.row c m).1) g.ly f.ly (g.ny.trans f.ny.symm),Bp.uniq (Nd (w:=true) λc m=>(f.col c m).1) g.lx f.lx (g.nx.trans f.nx.symm)⟩
end
end
section
open Builtin.Str
theorem I9(h:I6 l=true):(∀a,a∈Cu 10 l->zJy a)/\l.getLast?≠some 10:=by
 unfold I6 at h;split at h
 ·cases h
 ·rename_i q;rw[Bool.not_eq_true,Bool.or_eq_false_iff]at q;refine⟨λa m=>?_,λe=>?_⟩
  ·have:=lH7.mp h a m
   rw[lH6]at this;exact⟨this.2,by simpa using this.1⟩
  ·rw[e]at q;exact absurd q.2 (by decide)
theorem zCC(x:Str):cl (Txt.rstripChars x (sO " "))=((cl x).reverse.dropWhile (sO " ").cps.contains).reverse:=by
 show cl (Txt.stripBy (sO " ").cps.contains false true x)=_
 rw[stripBy_eq,←P4];simp[cl,strSub,stripLo,stripHi,Str.length]
theorem zC3(c:Nat):(sO " ").cps.contains c=(c==32):=by
 show(#[32]:Array Nat).contains c=_
 simp only[List.contains_toArray,List.contains_cons,List.contains_nil,Bool.or_false]
theorem Vb(h:p c=true):∀(m:Nat) (l:List Nat),(List.replicate m c++l).dropWhile p=l.dropWhile p
 |0,l=>rfl
 |m+1,l=>by
  rw[List.replicate_succ,List.cons_append,List.dropWhile_cons_of_pos h,Vb h m l]
theorem Y1(h:cl z=l++List.replicate m 32)(hl:l.getLast?≠some 32):cl (Txt.rstripChars z (sO " "))=l:=by
 rw[zCC,h,List.reverse_append,List.reverse_replicate,Vb (by rw[zC3];rfl)]
 rw[←List.head?_reverse]at hl
 cases e:l.reverse with
 |nil=>rw[List.reverse_eq_nil_iff.mp e];rfl
 |cons c r=>
  rw[e]at hl;rw[List.dropWhile_cons_of_neg (by rw[zC3];intro q;exact hl (by rw[lN8.mp q];rfl)),←e,List.reverse_reverse]
theorem Pw(c:Nat):∀(as:List (List Nat)) (z:List Nat),as≠[]->Bz c (as++[z])=Bz c as++c::z
 |[],z,h=>absurd rfl h
 |[a],z,_=>rfl
 |a::b::as,z,_=>by
  have:=Pw c (b::as) z (by simp)
  simp only[List.cons_append,Ic]at this ⊢;rw[this];simp
structure zPG (x:Str)(us:List Str)(m:Nat):Prop where
 eq:Txt.split x ⟨#[10]⟩=us++List.replicate m ⟨#[]⟩
 last:us.getLast?≠some ⟨#[]⟩
 join:Bz 10 (us.map cl)=cl x
theorem zKp(h:I6 (cl x)=true):∃us m,zPG x us m:=by
 have g:=I9 h;have js:Bz 10 ((Txt.split x ⟨#[10]⟩).map cl)=cl x:=by rw[Gu,Ha]
 by_cases q:(Txt.split x ⟨#[10]⟩).getLast? =some ⟨#[]⟩
 ·obtain⟨ys,e⟩:=List.getLast?_eq_some_iff.mp q
  rw[e,lJ5]at js;have js:Bz 10 (ys.map cl++[[]])=cl x:=js
  cases ys with
  |nil=>exact⟨[],1,e,by simp,js⟩
  |cons y ys=>
   rw[Pw 10 _ _ (by simp)]at js;exact absurd (by rw[←js];simp) g.2
 ·exact⟨_,0,by simp,q,js⟩
noncomputable abbrev Ku:Str:=⟨#[]⟩
noncomputable def zCo (x:Str)(k:Nat):Str:=(Txt.split x ⟨#[10]⟩)[k]?.getD ⟨#[]⟩
theorem zEy{α:Type}{l:List α}{M:Nat}(d:α)(h:l.length<=M):(List.range M).map (λj=>(l[j]?).getD d)=l++List.replicate (M - l.length) d:=by
 refine lH9 (by simp;exact Du (λZ=>An [_,_,_] [Ae x1 (.a x0 x2),eq1 (.a x2 x0) x1] rT Z (Aq (h))) (λZ=>An [_,_,_] [Ae (.a x0 x2) x1,Ac x1 (.a x2 x0)] rT Z (Ao _ _))) λi h1 h2=>?_
 simp only[lq6,lG4]at h1;rw[List.getElem_map,lF0];rcases lM8 i l.length with q|q
 ·rw[List.getElem_append_left q,lA9 q];rfl
 ·rw[List.getElem_append_right q,List.getElem?_eq_none q,List.getElem_replicate];rfl
theorem zIN{x:Str}{k M:Nat}(h:(zCo x k).length<=M):(List.range M).map (λj=>(zGU x k j).getD 32)=cl (zCo x k)++List.replicate (M - (zCo x k).length) 32:=by
 rw[←Bb]at h ⊢;rw[←zEy 32 h];refine lE3 λj _=>?_
 congr 1
 unfold zGU zCo
 cases(Txt.split x ⟨#[10]⟩)[k]? with
 |none=>rfl
 |some ln=>rfl
theorem zG0{α:Type}(l:List α)(h1:a<=b)(h2:b<=l.length):G8 (some (a:Int)) (some (b:Int)) l=(l.drop a).take (b - a):=by
 unfold G8 D1;have e1:max 0 (min (if(a:Int)<0 then(a:Int)+(l.length:Int)else(a:Int)) (l.length:Int))=a:=by rw[lO5 (by exactλZ=>Az [_] [Ae x0 (.n 0),Ac (.n 0) x0] rT Z (cast_nn _))];lia
 have e2:max 0 (min (if(b:Int)<0 then(b:Int)+(l.length:Int)else(b:Int)) (l.length:Int))=b:=by rw[lO5 (by exactλZ=>Az [_,_] [Ae x0 (.n 0),Ac x1 x0,Ac (.n 0) x1] rT Z (Cc h1) (cast_nn _))];lia
 simp only[e1,e2];congr 1<;>exact Nh (Kl (λZ=>Az [_,_,_,_] [Ae x0 x1,Ac (.s x3 x2) x0,eq1 (.a x1 x2) x3] rT Z (Hy _) (O1 ((Cc h1)))) (λZ=>Az [_,_,_,_] [Ae x1 x0,eq1 x0 (.s x3 x2),Cz (.a x1 x2) x3] rT Z (D5 (Vt (Ac (.n 0) (.s x1 x0)) [Ac x0 x1] rT (Cc h1))) (O1 ((Cc h1)))))
theorem zIM{f:Nat->Nat}{W a b:Nat}(h1:a<=b)(h2:b<=W):G8 (some (a:Int)) (some (b:Int)) ((List.range W).map f)=(List.range (b - a)).map λj=>f (a+j):=by
 rw[zG0 _ h1 (by simpa using h2)];refine lH9 (by simp;lia) λi i1 i2=>?_
 simp
section
variable {cs:List Cn}{R C:Nat}{Fy Fx:List Int}{kr:Nat}{σ:C3}
theorem J5.line(g:J5 cs R C Fy Fx)(T:Nf R C (cs.map Cn.bn)){c:Cn}(m:c∈cs)(hx:I6 (cl c.x)=true){k:Nat}(hk:(D3 Fy Fx c).n+2+k<(D3 Fy Fx c).s)(r:Ue kr (F3 Fy R) (F3 Fx C) (Jk cs (D3 Fy Fx)) σ){loc:Bm}:
  ∃z:Str,Aj (.ref kr) (.int (((D3 Fy Fx c).n+2+k:Nat):Int)) ⟨loc,σ⟩=.ok (.str z) ⟨loc,σ⟩∧z.length≤5000∧Txt.rstripChars ⟨(G8 (some (((D3 Fy Fx c).w+2:Nat):Int)) (some ((D3 Fy Fx c).e:Int)) (cl z)).toArray⟩ (sO " ")=zCo c.x k:=by
 have bx:=g.box m;have rm:=g.room m;have hh:=r.hh;have hw:=r.hw;have rw0:(zCo c.x k).length<=(D3 Fy Fx c).e - ((D3 Fy Fx c).w+2):=by
  unfold zCo
  cases e:(Txt.split c.x ⟨#[10]⟩)[k]? with
  |none=>show 0<=_;exact(lq5 _)
  |some ln=>have:=rm.col ln (lD5 e);show ln.length<=_;exact Cd (Ac x0 x1) [Ac (.a (.a x2 (.n 3)) x0) x3,Ac x3 (.a x1 (.a x2 (.n 2)))] rT this (Ao _ _)
 have p3:(D3 Fy Fx c).w+2<=(D3 Fy Fx c).e:=((g.net T).of (lM4.mpr ⟨c,m,rfl⟩)).nx
 obtain⟨z,ez,hz,hzl⟩:=zAl r (y:=(D3 Fy Fx c).n+2+k) (loc:=loc) (by show _<(Fy.getD R 0).toNat+1;exact Cd (Ae (.a (.a x0 (.n 2)) x1) (.a x2 (.n 1))) [Ae (.a (.a x0 (.n 2)) x1) x3,Ac x3 x2] rT hk bx.2.1)
 refine⟨z,ez,lM7 (lM5 hzl) hw,Qg (Y1 (m:=(D3 Fy Fx c).e - ((D3 Fy Fx c).w+2) - (zCo c.x k).length) ?_ ?_)⟩
 ·rw[zIk,hz,zIM p3 (by show _<=(Fx.getD C 0).toNat+1;exact Nat.le_add_right_of_le bx.2.2),←zIN rw0]
  refine lE3 λj hj=>?_
  rw[lK9]at hj;have mb:c.bn∈cs.map Cn.bn:=lM4.mpr ⟨c,m,rfl⟩
  have a1:(D3 Fy Fx c).n=Dy Fy c.bn.t:=rfl
  have a2:(D3 Fy Fx c).w=Dy Fx c.bn.l:=rfl
  have a3:(D3 Fy Fx c).s=Dy Fy c.bn.b:=rfl
  have a4:(D3 Fy Fx c).e=Dy Fx c.bn.r:=rfl
  rw[(g.pic T).ins c.bn mb _ _ ⟨by exact Cp (Ae x0 (.a (.a x0 (.n 2)) x1)) [Ac (.n 0) x1] rT (lq5 _),hk,by exact Cp (Ae x0 (.a (.a x0 (.n 2)) x1)) [Ac (.n 0) x1] rT (lq5 _),by exact Cd (Ae (.a (.a x0 (.n 2)) x2) x1) [Ae x2 x3,eq1 (.a x3 (.a x0 (.n 2))) x1] rT hj (Aq (p3))⟩,lO6 (by exact⟨Cp (Ac (.a x0 (.n 2)) (.a (.a x0 (.n 2)) x1)) [Ac (.n 0) x1] rT (lq5 _),Cp (Ac (.a x0 (.n 2)) (.a (.a x0 (.n 2)) x1)) [Ac (.n 0) x1] rT (lq5 _)⟩),Xl T m];congr 2<;>lia
 ·unfold zCo
  cases e:(Txt.split c.x ⟨#[10]⟩)[k]? with
  |none=>simp[cl]
  |some ln=>
   have:cl ln∈Cu 10 (cl c.x):=by rw[←Gu];exact lM4.mpr ⟨ln,lD5 e,rfl⟩
   exact((I9 hx).1 _ this).2
theorem zNB(hmn:∀z S,mn (.str z) S=.ok .next S)(hl:us.length+m≤5000)(hu:us.getLast?≠some Ku)(h2:loc 2=some (.ref σ.length))(hQ:Q .next ⟨loc,σ++[.list (us.map D.str)]⟩):W (Gn (Oa (C1 zCn (Af (A9 (A6 2) Ai) Cf) (A8 (.int 0))) (C1 F2 (Ad Aj (A6 2) (Ad H2 (Af (A9 (A6 2) Ai) Cf) (A8 (.int 1)))) (A8 (.str (Str.ofString ""))))) (Ag (Af (Af (A6 2) (Dh Yk)) mn) (A8 .next))) ⟨loc,σ++[.list ((us++List.replicate m Ku).map D.str)]⟩ Q:=by
 have hsl:(5000:Nat)<=sizeLine:=by decide
 refine Mh (λn st'=>st'=⟨loc,σ++[.list ((us++List.replicate n Ku).map D.str)]⟩/\n<=m) ?_ 1000000 m _ (by exact Cp (Ae x0 (.n 1000000)) [Ac (.a x1 x0) (.n 5000),Ac (.n 0) x1] rT hl (lq5 _)) ⟨rfl,lN4 _⟩
 rintro n st' ⟨rfl,hnm⟩
 have fin:n=0->Q .next ⟨loc,σ++[.list ((us++List.replicate n Ku).map D.str)]⟩:=λe=>by rw[e,List.replicate_zero,lJ0];exact hQ
 have hlen:(us++List.replicate n Ku).length=us.length+n:=by rw[lq7,lC4]
 generalize hv:us++List.replicate n Ku=vs at fin hlen
 have gk:(σ++[PO.list (vs.map D.str)])[σ.length]? =some (.list (vs.map D.str)):=lq3
 refine zHB (Aa (B8 (t:=decide (((vs.map D.str).length:Int)>0)) (A5 (A5 (A7 h2) rfl) (E6 gk (by rw[lq6];exact Cd (Ae x0 (.n 4611686018427387904)) [Ac (.a x1 x2) (.n 5000),Ac x3 x2,eq1 x0 (.a x1 x3)] rT hl hnm hlen))) rfl rfl rfl) ?_)
 rw[lq6];rcases List.eq_nil_or_concat vs with q|⟨vs',z,q0⟩
 ·rw[q]at hlen;simp only[List.length_nil]at hlen;rw[lO5 (by rw[q];simp),lO5 (by decide)]
  exact fin (by exact Du (λZ=>An [_] [Ae x0 (.n 0),Ac (.n 0) x0] rT Z (lq5 _)) (λZ=>An [_,_] [Ae (.n 0) x0,Cz (.n 0) (.a x1 x0),Ac (.n 0) x1] rT Z hlen (lq5 _)))
 ·have q:vs=vs'++[z]:=by rw[q0,List.concat_eq_append]
  clear q0;have hvl:vs.length=vs'.length+1:=by rw[q,lq7];rfl
  rw[lO6 (lL1 (by exact zLj λZ=>Az [(↑vs.length),(↑vs'.length)] [Ac x0 (.n 0),Cz x0 (.a x1 (.n 1)),Ac (.n 0) x1] rT Z (M9 hvl) (cast_nn _)))]
  have gi:(vs.map D.str)[vs'.length]? =some (.str z):=by rw[q,lJ5,lA3 (by simp)];simp
  have ri:Aj (.ref σ.length) (.int (((vs.map D.str).length:Int) - 1)) ⟨loc,σ++[PO.list (vs.map D.str)]⟩=.ok (.str z) ⟨loc,σ++[PO.list (vs.map D.str)]⟩:=by
   rw[lq6,show((vs.length:Nat):Int) - 1=(vs'.length:Int)by exact Kl (λZ=>Az [_,_] [Ae (.s x0 (.n 1)) x1,Cz x0 (.a x1 (.n 1))] rT Z (M9 hvl)) (λZ=>Az [_,_] [Ae x1 (.s x0 (.n 1)),eq1 x0 (.a x1 (.n 1))] rT Z (M9 hvl))]
   exact zAg gk gi (by rw[lq6];exact Cd (Ac x0 (.n 4611686018427387904)) [Ac (.a x1 x2) (.n 5000),Ac x3 x2,eq1 x0 (.a x1 x3)] rT hl hnm hlen)
  refine Aa (B8 (t:=(cl z==[])) (Ab (A7 h2) (Ab (A5 (A5 (A7 h2) rfl) (E6 gk (by rw[lq6];exact Cd (Ae x0 (.n 4611686018427387904)) [Ac (.a x1 x2) (.n 5000),Ac x3 x2,eq1 x0 (.a x1 x3)] rT hl hnm hlen))) rfl rfl) ri) rfl (Bg (zB3 ⟨rfl,rfl⟩)) rfl) ?_
  by_cases hz:cl z=[]
  ·rw[lO6 (by rw[hz];rfl)]
   have hz2:z=Ku:=Qg hz
   cases n with
   |zero=>
    rw[List.replicate_zero,lJ0]at hv;exact absurd (by rw[hv,q,List.getLast?_concat,hz2]) hu
   |succ n=>
    have hv':us++List.replicate n Ku=vs':=by
     rw[List.replicate_succ',←lq8,q]at hv;exact(List.append_inj' hv rfl).1
    refine Ax (A5 (zA8 (ds:=vs'.map D.str) (d:=.str z) (A7 h2) (by rw[gk,q,lJ5];rfl) (by rw[lq6];exact X6 λZ=>An [_,_,_,_,_,_] [Ae x0 (.a x1 (.n 1)),Ac (.a x2 x3) (.n 5000),Ac (.n 5000) x0,Cz x4 (.a x1 (.n 1)),Ac (.a x5 (.n 1)) x3,eq1 x4 (.a x2 (.a x5 (.n 1)))] rT Z hl hsl hvl hnm hlen)) (hmn z _)) (Aa rfl ⟨n,lI5 _,?_,by exact Cp (Ac x1 x0) [Ac (.a x1 (.n 1)) x0] rT hnm⟩)
    rw[hv'];show(⟨loc,(σ++[PO.list (vs.map D.str)]).set σ.length _⟩:St)=_
    rw[lC8 _ _ (lN4 _),lN1];rfl
  ·rw[lO5 (by rw[lN8];exact hz)]
   refine fin ?_
   cases n with
   |zero=>rfl
   |succ n=>
    rw[List.replicate_succ',←lq8,q]at hv;have:=(List.append_inj' hv rfl).2
    simp only[lJ1,and_true]at this;exact absurd (by rw[←this];rfl) hz
end
end
section
open Builtin.Str
section
variable {cs:List Cn}{R C:Nat}{Fy Fx:List Int}{kr:Nat}{σ:C3}
theorem zFA(hx:x.length<=sizeLine):Jb (.str x) l h S=.ok (.str ⟨(G8 l h (cl x)).toArray⟩) S:=C8 hx
theorem zCF(g:J5 cs R C Fy Fx)(T:Nf R C (cs.map Cn.bn))(m:c∈cs)(hx:X4 c.x)(r:Ue kr (F3 Fy R) (F3 Fx C) (Jk cs (D3 Fy Fx)) σ)(hQ:∀j,Q (.str c.x) ⟨loc,σ++j⟩):
  W (Kd [.ref kr,qD (D3 Fy Fx c)]) ⟨loc,σ⟩ Q:=by
 have hsl:(5000:Nat)<=sizeLine:=by decide
 have bx:=g.box m;have rm:=g.room m;have hh:(Fy.getD R 0).toNat+1<=5000:=r.hh
 have hw:(Fx.getD C 0).toNat+1<=5000:=r.hw
 have hxl:=hx.len;have rr:=rm.row;generalize hqq:D3 Fy Fx c=q at*
 refine Bu rfl ?_
 unfold Rr;generalize hb:Dk Br [0,1] [.ref kr,qD q]=lb
 have b0:lb 0=some (.ref kr):=by rw[←hb];rfl
 have b1:lb 1=some (qD q):=by rw[←hb];rfl
 have hbx:q.s<=5000:=lM7 bx.2.1 (lM6 hh)
 have hbn:q.n+2<=5002:=Nat.add_le_add_right (lM7 (lM6 bx.1.1) hbx) 2
 refine Ax (run_set (A5 (A5 (A5 (Ab (Ab (A7 b1) rfl rfl) rfl rfl) (A5 (A5 (Ab (A7 b1) rfl rfl) rfl) rfl)) (M8 (a:=q.n+2) (b:=q.s) rfl rfl (lk hbn rfl) (lk hbx rfl))) (Gl (λk=>D.str (zCo c.x k)) (λl=>l 0=some (.ref kr)/\l 1=some (qD q)) (by rw[lG4];exact lk (lM7 (Nat.sub_le _ _) hbx) rfl) trivial ⟨b0,b1⟩ (λ_ _ h=>h) λk mk l hA=>?_))) ?_
 ·rw[lK9]at mk;have hk:(D3 Fy Fx c).n+2+k<(D3 Fy Fx c).s:=by rw[hqq];exact Cd (Ae (.a (.a x0 (.n 2)) x2) x1) [Ae x2 x3,eq1 (.a x3 (.a x0 (.n 2))) x1] rT mk (Aq (Ck (Ac (.a x0 (.n 2)) x1) [Ac (.a (.a x0 (.n 2)) x2) x1,Ac (.n 0) x2] rT rr (lq5 _)))
  obtain⟨z,ez,hzl,hz⟩:=g.line T m hx.good hk (by rw[hqq]at *; exact r) (loc:=Be l 3 (D.int ((q.n+2+k:Nat):Int))) (σ:=σ)
  rw[hqq]at ez hz;refine A5 (zHL (Ab (A7 (i:=0) hA.1) rfl ez) (Ab (Ab (A7 (i:=1) hA.2) rfl rfl) rfl rfl) (Ab (A7 (i:=1) hA.2) rfl rfl) (zFA (lk hzl rfl))) (A5 rfl ((C8 ?_).trans (lO2 (λx=>Re.ok (D.str x) _) hz)))
  rw[←Bb,zIk];unfold G8;rw[lI2,lI1,Bb];exact lM7 (Nat.min_le_right _ _) (lM7 (Nat.sub_le _ _) (lk hzl rfl))
 ·obtain⟨us,m0,lf⟩:=zKp hx.good;have ln1:=lO2 List.length lf.eq;rw[lq7,lC4]at ln1;have hsl2:=Wf (x:=c.x);have e2:(List.range (q.s - (q.n+2))).map (λk=>D.str (zCo c.x k))=(us++List.replicate (m0+(q.s - (q.n+2) - (Txt.split c.x ⟨#[10]⟩).length)) Ku).map D.str:=by
   rw[←List.replicate_append_replicate,←lq8,←lf.eq,←zEy Ku (by exact Cd (Ac x0 x1) [Ac (.a (.a x2 (.n 2)) x0) x3,Ac x3 (.a x1 (.a x2 (.n 2)))] rT rr (Ao _ _)),lM3];rfl
  rw[e2];refine Al (zNB (λ_ _=>rfl) (by exact X6 λZ=>An [_,_,_,_,_,_,_] [Ae (.n 5000) (.a x0 (.a x1 x2)),Ac (.a x3 (.n 1)) (.n 5000),Ac x4 x3,Cz x5 (.a x0 x1),Ac x6 x4,eq1 (.a x2 x5) x6] rT Z hh bx.2.1 ln1 (Eb _ _) (Aq (Cd (Ac x0 x1) [Ac (.a (.a x2 (.n 2)) x0) x3,Ac x3 (.a x1 (.a x2 (.n 2)))] rT rr (Ao _ _)))) lf.last rfl ?_)
  refine Al (Wb (Wb (Aa rfl (Wb (Aa rfl (To lq3 (H1 us) (Hv (B:=c.x.length) (λy my=>Pu y (by rw[lf.eq];exact lD4 _ my)) ?_) (Aa rfl ?_)))))))
  ·show us.length*c.x.length+us.length*1<=_
   have:us.length*c.x.length<=201*200:=lL0 (by exact Cd (Ac x0 (.n 201)) [Ac x1 (.n 200),Cz x2 (.a x0 x3),Ac x2 (.a x1 (.n 1)),Ac (.n 0) x3] rT hxl ln1 hsl2 (lq5 _)) hxl
   lia
  ·rw[show Str.join (sO "\n") us=c.x from Qg ((Iw 10 us).trans lf.join)]
   exact hQ _
end
section
variable {Y:Nat->Nat}{R:Nat}{σ:C3}
noncomputable def zBU (Y:Nat->Nat)(R:Nat):List D:=(List.range (R+1)).map λi=>D.int (Y i:Int)
theorem zEt(i:Nat):∀n,((List.range n).filter λk=>decide (k<i)).length=min i n
 |0=>by simp
 |n+1=>by
  rw[List.range_succ,List.filter_append,lq7,zEt i n];by_cases q:n<i
  ·simp[q];lia
  ·simp[q];lia
theorem Mi(L:zCT Y R)(hi:i<=R)(hR:R<=100)(hk:σ[k]? =some (.list (zBU Y R)))(hQ:∀j,Q (.int (i:Int)) ⟨loc,σ++j⟩):W (Cy [.ref k,.int (Y i:Int)]) ⟨loc,σ⟩ Q:=by
 have el:(((List.range (R+1)).filter λj=>decide ((Y j:Int)<Y i)).map λj=>D.int (Y j:Int)).length=i:=by
  rw[lq6,List.filter_congr (q:=λk=>decide (k<i)) λa ma=>?_,zEt]
  ·exact lJ8 (Nat.le_succ_of_le hi)
  ·rw[lK9]at ma;refine lI7.mpr ⟨λh=>L.lt (lG8 ma) (Int.ofNat_lt.mp h),λh=>?_⟩
   exact Int.ofNat_lt.mpr (lF5 (Nat.lt_add_of_pos_right (by decide)) (L a i h hi))
 refine Bu rfl (El (G5 (A5 (A5 (A5 (A5 rfl (Cv hk)) (N0 (xs:=List.range (R+1)) (e:=λj=>D.int (Y j)) (λj=>decide ((Y j:Int)<Y i)) (λj=>D.int (Y j)) (λl=>l 1=some (.int (Y i:Int))) (by rw[lG4];exact lk (lI6 hR) rfl) hk rfl (λ_ _ h=>h) λj m l hA=>⟨B8 rfl (A7 hA) rfl rfl,λ_=>rfl⟩)) rfl) (E6 lq3 (by rw[el];exact zAm (lM7 hi hR) rfl)))) ?_)
 rw[el];exact hQ _
theorem Ro(ns:List Int)(k:Int):k∈Dq ns↔k∈ns:=by
 have go:∀(l ks:List Int),k∈l.foldl N7 ks↔k∈ks∨k∈l:=by
  intro l
  induction l with
  |nil=>intro ks;simp
  |cons a l ih=>
   intro ks;rw[lJ2,ih];unfold N7;split
   ·rename_i h;have:=lC3.mp h
    constructor
    ·rintro(q|q)
     ·exact .inl q
     ·exact .inr (lq4 _ q)
    ·rintro(q|q)
     ·exact .inl q
     ·rcases lL5.mp q with z|z
      ·exact .inl (z▸this)
      ·exact .inr z
   ·simp only[lJ6,lF1,lL5,or_assoc,lI3,false_or]
 unfold Dq;rw[go];simp
theorem Wg{k:Nat}{ns:List Int}(L:zCT Y R)(hR:R<=20)(hk:σ[k]? =some (.list (ns.map D.int)))(hl:ns.length<=1000)(h1:∀n,n∈ns->∃i,i<=R/\n=(Y i:Int))(h2:∀i,i<=R->(Y i:Int)∈ns){loc:Bm}:Ht (.ref k) ⟨loc,σ⟩=.ok (.ref σ.length) ⟨loc,σ++[.list (zBU Y R)]⟩:=by
 have up:((List.range (R+1)).map λi=>(Y i:Int)).Pairwise (· < ·):=by
  refine lG6.mpr (List.pairwise_lt_range.imp_of_mem λ{a b} ma mb h=>?_)
  rw[lK9]at ma mb;have:=L a b h (lG8 mb)
  show(Y a:Int)<Y b
  exact Vt (Ae x0 x1) [Ac (.a x0 (.n 2)) x1] rT (Cc this)
 have nd:(Dq ns).Nodup:=O7 List.nodup_nil
 have pm:((List.range (R+1)).map λi=>(Y i:Int)).Perm (Dq ns):=by
  refine zAA nd (up.imp λ{a b} h e=>by exact Az [_,_] [Ae x0 x1,Cz x0 x1] rT h e) (λa ma=>?_) λa ma=>?_
  ·obtain⟨i,hi,rfl⟩:=h1 a ((Ro _ _).mp ma);exact lM4.mpr ⟨i,lK9.mpr (Nat.lt_succ_of_le hi),rfl⟩
  ·obtain⟨i,mi,rfl⟩:=lM4.mp ma;rw[lK9]at mi;exact(Ro _ _).mpr (h2 i (lG8 mi))
 have es:=Os pm (up.imp λ{a b} h=>lM1 h) nd
 have hlen:(Dq ns).length=R+1:=by rw[←pm.length_eq];simp
 refine(Bf hk).trans ?_
 rw[Fa];refine(C8 (by exact⟨X7 (Ae (.a x0 (.n 1)) (.n 4096)) [Ac x0 (.n 1000)] rT hl,Cp (Ae x0 (.n 64)) [Ac x1 (.n 20),eq1 x0 (.a x1 (.n 1))] rT hR hlen⟩)).trans ?_
 rw[←es,lM3];rfl
end
end
section
open Builtin.Str
theorem zBk(x:Str)(c:Nat):Txt.endswith x ⟨#[c]⟩=((cl x).getLast? ==some c):=by
 unfold Txt.endswith;rw[StrLaws.subAt_eq];have hl:(⟨#[c]⟩:Str).length=1:=rfl
 have hx:x.length=(cl x).length:=(Bb x).symm
 rw[hl,hx];show(decide (0+1<=(cl x).length)&&List.take 1 (List.drop ((cl x).length - 1) (cl x))==[c])=_
 generalize cl x=l
 rcases List.eq_nil_or_concat l with rfl|⟨r,y,rfl⟩
 ·rfl
 ·simp
theorem zGi(hy:y=⟨#[c]⟩)(h:(cl x).getLast?≠some c):Txt.endswith x y=false:=by
 subst hy;rw[zBk];simpa using h
theorem zHq:Qk (.str ⟨#[a]⟩) (.str ⟨#[b]⟩) S=.ok (.bool (decide (a<b))) S:=
 Bg (zM1.mpr ⟨lO2 D.bool (lI7.mpr (by simp[cl,List.cons_lt_cons_iff])),rfl⟩)
theorem zGn:zCn (.str ⟨#[a]⟩) (.str ⟨#[b]⟩) S=.ok (.bool (decide (b<a))) S:=
 Bg (zMt.mpr ⟨lO2 D.bool (lI7.mpr (by simp[cl,List.cons_lt_cons_iff])),rfl⟩)
theorem zD0{x y:Str}{c:Nat}{S:St}(hy:y=⟨#[c]⟩)(h:(cl x).getLast?≠some c):Hs x [.str y] S=.ok (.bool false) S:=lO2 (λb=>Re.ok (D.bool b) S) (zGi hy h)
theorem zCE{x:Str}{st:St}{Q:D->St->Prop}(hx:X4 x)(h:∀j,Q (.bool true) ⟨st.loc,st.sto++j⟩):W (Mu [.str x]) st Q:=by
 have hl:=hx.len;have g:=I9 hx.good;refine Bu rfl (Al (Nt (Dv (b:=false) rfl rfl (Dv (B8 (t:=decide ((x.length:Int)>200)) (A5 rfl (C8 (zAm hl rfl))) rfl rfl rfl) (decide_eq_false (lN6.mpr (Cc hl))) (A5 (b:=.bool false) (A5 rfl (A5 rfl (by exact zD0 (c:=10) rfl g.2))) rfl))) rfl (Aa rfl (Al (Wb (Aa (A5 (A5 rfl (Ik (lk (Nat.add_le_add_right hl 2) rfl))) (Cv lq3)) ?_))))))
 refine E2 (λ_ st'=>st'.sto=st.sto++[.list ((Txt.split x ⟨#[10]⟩).map D.str)]) (λ_ _ e=>e▸lq3) (λdn y rest st' he e=>?_) (λst' e=>El rfl (by show Q _ ⟨_,st'.sto⟩;rw[e];exact h _)) rfl
 have gy:zJy (cl y):=g.1 _ (by rw[←Gu];exact lM4.mpr ⟨y,by rw[he];exact lC6 _ lq1,rfl⟩)
 refine⟨Be st'.loc 1 (.str y),rfl,Al (Nt (A5 (b:=.bool false) (A5 rfl (A5 rfl (by exact zD0 (c:=32) rfl gy.2))) rfl) rfl (Aa rfl (Al (Wb (Aa (a:=⟨S8 y,λ_=>True⟩) rfl ?_)))))⟩
 refine E2 (xs:=cl y) (λ_ s2=>s2.sto=st.sto++[.list ((Txt.split x ⟨#[10]⟩).map D.str)]) (λ_ _ _=>trivial) (λd2 c r2 s2 h2 e2=>?_) (λs2 e2=>Aa rfl e2) e
 have hc:=lD1.mp (lH7.mp gy.1 c (by rw[h2];exact lC6 _ lq1))
 exact⟨Be s2.loc 2 (.str ⟨#[c]⟩),rfl,Al (Nt (Dv (B8 rfl rfl (zHq (b:=32)) rfl) (decide_eq_false (lN7.mpr (lH3 hc.1))) (B8 rfl rfl (zGn (b:=126)) rfl)) (decide_eq_false (lN7.mpr (lH3 hc.2))) (Aa rfl (Aa rfl e2)))⟩
theorem Rv{n:Nat}{st:St}{Q:D->St->Prop}(h1:1<=n)(h2:n<=20)(hQ:Q (.bool true) st):W (Kc [.int (n:Int)]) st Q:=by
 refine Bu rfl (El (G5 (Oz (b:=true) rfl rfl (Oz (Ab rfl rfl rfl) (lL1 (Cc h1)) (Ab rfl rfl rfl)))) ?_)
 show Q (.bool (decide ((n:Int)<=20))) _
 rw[lL1 (p:=(n:Int)<=20) (Cc h2)]
 exact hQ
section
variable {R C:Nat}
structure zPC (R C:Nat)(c:Cn)(l:Bm):Prop where
 l0:l 0=some (.int (R:Int))
 l1:l 1=some (.int (C:Int))
 l2:l 2=some (.int (c.t:Int))
 l3:l 3=some (.int (c.l:Int))
 l4:l 4=some (.int ((c.b:Int) - c.t))
 l5:l 5=some (.int ((c.r:Int) - c.l))
theorem zK1{c:Cn}(g:(c.t<c.b/\c.b<=R)/\c.l<c.r/\c.r<=C){st:St}{Q:D->St->Prop}(hQ:Q (.bool true) st):W (N5 [.int (R:Int),.int (C:Int),.int (c.t:Int),.int (c.l:Int),.int ((c.b:Int) - c.t),.int ((c.r:Int) - c.l)]) st Q:=by
 have e1:∀{a b:Nat},a<b->decide ((b:Int) - a<1)=false:=λh=>decide_eq_false (by exactλZ=>Az [_,_] [Ae (.s x1 x0) (.n 1),Ae x0 x1] rT Z (F1 h))
 have e2:∀{a b n:Nat},b<=n->decide ((a:Int)+((b:Int) - a)<=n)=true:=λh=>lL1 (by exact zIX (Ac (.a x2 (.s x0 x2)) x1) [Ac x0 x1] rT (Cc h))
 have e0:∀{a:Nat},decide ((a:Int)<0)=false:=decide_eq_false (lN6.mpr (cast_nn _))
 refine Bu rfl (Al (Wb (Aa (a:=⟨[(c.t:Int),(c.l:Int),(c.b:Int) - c.t,(c.r:Int) - c.l].map D.int,λ_=>True⟩) rfl ?_)))
 refine E2 (λ_ st'=>st'.sto=st.sto/\zPC R C c st'.loc) (λ_ _ _=>trivial) (λdn i rest st' he h=>?_) (λst' h=>?_) ⟨rfl,rfl,rfl,rfl,rfl,rfl,rfl⟩
 ·exact⟨Be st'.loc 6 (.int i),rfl,Al (Nt (b:=false) rfl rfl (Aa rfl (Aa rfl ⟨h.1,h.2.l0,h.2.l1,h.2.l2,h.2.l3,h.2.l4,h.2.l5⟩)))⟩
 obtain⟨l,σ⟩:=st';obtain⟨e,L⟩:=h
 cases e;refine Al (Nt (Dv (B8 (A7 L.l2) rfl rfl rfl) e0 (Dv (B8 (A7 L.l3) rfl rfl rfl) e0 (Dv (B8 (A7 L.l4) rfl rfl rfl) (e1 g.1.1) (B8 (A7 L.l5) rfl rfl rfl)))) (e1 g.2.1) (Aa rfl (El (G5 (Oz (Ab (Ab (A7 L.l2) (A7 L.l4) rfl) (A7 L.l0) rfl) (e2 g.1.2) (Ab (Ab (A7 L.l3) (A7 L.l5) rfl) (A7 L.l1) rfl))) ?_)))
 rw[e2 g.2.2];exact hQ
theorem zL5{c:Cn}(g:(c.t<c.b/\c.b<=R)/\c.l<c.r/\c.r<=C)(ht:X4 c.x){st:St}{Q:D->St->Prop}(hQ:∀j,Q .none ⟨st.loc,st.sto++j⟩):W (N8 [Ce c,.int (R:Int),.int (C:Int)]) st Q:=by
 refine Bu rfl ?_
 unfold R1;refine Da (b:=false) rfl (λz=>by cases z) λ_=>Aa rfl ?_
 refine Al (zKS (Wb (Wb (Wb (Aa rfl (zK1 g (Aa rfl (Aa rfl (Aa rfl ?_)))))))))
 refine Al (zKS (Wb (Wb (Wb (Aa rfl (zCE ht λj=>Aa rfl (Aa rfl (Aa rfl (Aa rfl (hQ j))))))))))
end
noncomputable def zCW (x:List Int):D:=.tup (x.map D.int)
noncomputable def zLk (b:Bn)(i:Nat):List (List Int):=(List.range (b.r - b.l)).flatMap λj=>[[((b.t+i:Nat):Int),((b.l+j:Nat):Int)]]
noncomputable def O9 (b:Bn):List (List Int):=(List.range (b.b - b.t)).flatMap (zLk b)
theorem Kh:n∈O9 b↔∃i j:Nat,b.In i j/\n=[(i:Int),(j:Int)]:=by
 unfold O9 zLk;simp only[List.mem_flatMap,lK9,lF1];constructor
 ·rintro⟨i,hi,j,hj,rfl⟩
  exact⟨b.t+i,b.l+j,⟨⟨by exact Cp (Ac x1 (.a x1 x0)) [Ac (.n 0) x0] rT (lq5 _),by lia⟩,by exact Cp (Ac x1 (.a x1 x0)) [Ac (.n 0) x0] rT (lq5 _),by lia⟩,rfl⟩
 ·rintro⟨i,j,h,rfl⟩
  have h:(b.t<=i/\i<b.b)/\b.l<=j/\j<b.r:=h
  exact⟨i - b.t,by exact Mr (Ae x0 x1) [Ae x2 x3,Ac x3 (.a x1 x4),eq1 (.a x0 x4) x2] rT h.1.2 (Ao _ _) (Aq (h.1.1)),j - b.l,by exact Mr (Ae x0 x1) [Ae x2 x3,Ac x3 (.a x1 x4),eq1 (.a x0 x4) x2] rT h.2.2 (Ao _ _) (Aq (h.2.1)),by rw[show b.t+(i - b.t)=i by exact Du (λZ=>An [_,_,_] [Ae (.a x0 x2) x1,Ac x1 (.a x2 x0)] rT Z (Ao _ _)) (λZ=>An [_,_,_] [Ae x1 (.a x0 x2),eq1 (.a x2 x0) x1] rT Z (Aq (h.1.1))),show b.l+(j - b.l)=j by exact Du (λZ=>An [_,_,_] [Ae (.a x0 x2) x1,Ac x1 (.a x2 x0)] rT Z (Ao _ _)) (λZ=>An [_,_,_] [Ae x1 (.a x0 x2),eq1 (.a x2 x0) x1] rT Z (Aq (h.2.1)))]⟩
theorem Rw{α:Type}{β:Type}(l:List α)(f:α->List β)(k:Nat)(h:∀a,a∈l->(f a).length=k):(l.flatMap f).length=l.length*k:=by
 induction l with
 |nil=>simp
 |cons a l ih=>
  rw[List.flatMap_cons,lq7,h a lq1,ih λb m=>h b (lq4 _ m),lI0,Nat.succ_mul]
  exact Du (λZ=>An [_,_] [Ae (.a x0 x1) (.a x1 x0)] rT Z) (λZ=>An [_,_] [Ae (.a x1 x0) (.a x0 x1)] rT Z)
theorem zAT(b:Bn):(O9 b).length=(b.b - b.t)*(b.r - b.l):=by
 unfold O9;rw[Rw _ _ (b.r - b.l) λi _=>?_,lG4]
 unfold zLk;rw[Rw _ _ 1 λj _=>rfl,lG4,Nat.mul_one]
theorem Ru(b:Bn):(O9 b).Nodup:=by
 unfold O9 zLk List.Nodup;refine List.pairwise_flatMap.mpr ⟨λi _=>List.pairwise_flatMap.mpr ⟨λj _=>by simp,?_⟩,?_⟩
 ·refine List.pairwise_lt_range.imp λ{a c} h x mx y my e=>?_
  rw[lF1]at mx my;rw[mx,my]at e;simp only[lJ1,and_true,true_and]at e;exact Az [(↑a),(↑c),(↑b.l)] [Cz (.a x2 x0) (.a x2 x1),Ae x0 x1] rT e (F1 h)
 ·refine List.pairwise_lt_range.imp λ{a c} h x mx y my e=>?_
  simp only[List.mem_flatMap,lF1]at mx my;obtain⟨j,_,rfl⟩:=mx;obtain⟨k,_,rfl⟩:=my;simp only[lJ1,and_true]at e;exact Az [(↑a),(↑c),(↑b.t)] [Cz (.a x2 x0) (.a x2 x1),Ae x0 x1] rT e.1 (F1 h)
theorem zBz{bs:List Bn}(h:bs.Pairwise λa b=>∀i j,a.In i j->¬b.In i j):(bs.flatMap O9).Nodup:=by
 unfold List.Nodup;refine List.pairwise_flatMap.mpr ⟨λb _=>Ru b,h.imp λ{a b} h x mx y my e=>?_⟩
 obtain⟨i,j,h1,rfl⟩:=Kh.mp mx;obtain⟨i2,j2,h2,rfl⟩:=Kh.mp my;simp only[lJ1,and_true]at e;have e1:i=i2:=by exact Nh (Kl (λZ=>Az [_,_] [Ae x0 x1,Cz x0 x1] rT Z e.1) (λZ=>Az [_,_] [Ae x1 x0,eq1 x0 x1] rT Z e.1))
 have e2:j=j2:=by exact Nh (Kl (λZ=>Az [_,_] [Ae x0 x1,Cz x0 x1] rT Z e.2) (λZ=>Az [_,_] [Ae x1 x0,eq1 x0 x1] rT Z e.2))
 subst e1 e2;exact h i j h1 h2
theorem zGt{R C:Nat}{bs cs:List Bn}(T:Nf R C bs)(p:cs.Perm bs):(cs.flatMap O9).Nodup/\(cs.flatMap O9).length=R*C:=by
 have pf:(cs.flatMap O9).Perm (bs.flatMap O9):=p.flatMap_right _
 have nd:=zBz T.dis;refine⟨pf.nodup_iff.mpr nd,?_⟩
 rw[pf.length_eq];have hG:(O9 ⟨0,0,R,C⟩).length=R*C:=by rw[zAT];rfl
 rw[←hG];refine lJ7 (Il nd λn m=>?_) (Il (Ru _) λn m=>?_)
 ·obtain⟨b,mb,hb⟩:=List.mem_flatMap.mp m;obtain⟨i,j,h,rfl⟩:=Kh.mp hb;have g:=T.good b mb;have h:(b.t<=i/\i<b.b)/\b.l<=j/\j<b.r:=h
  exact Kh.mpr ⟨i,j,⟨⟨lq5 _,by show i<R;exact lF5 h.1.2 g.1.2⟩,lq5 _,by show j<C;exact lF5 h.2.2 g.2.2⟩,rfl⟩
 ·obtain⟨i,j,h,rfl⟩:=Kh.mp m;obtain⟨b,mb,hb⟩:=T.cov i j h.1.2 h.2.2;exact List.mem_flatMap.mpr ⟨b,mb,Kh.mpr ⟨i,j,hb,rfl⟩⟩
theorem Us{v:Nat}{body:Mn Fl}{σ:C3}{A:Bm->Prop}{f:Nat->D}{g:Nat->List (List Int)}{total:List (List Int)}{Q:Fl->St->Prop}(hbody:∀l dl i rest,A l->dl++(g i++rest)=total->W body ⟨Be l v (f i),σ++[.list (dl.map zCW)]⟩ (λfl st'=>fl=.next/\A st'.loc/\st'.sto=σ++[.list ((dl++g i).map zCW)]))
  (hQ:∀l,A l->Q .next ⟨l,σ++[.list (total.map zCW)]⟩) (is0:List Nat) (dl0:List (List Int)) (loc:Bm) (hA:A loc) (h0:dl0++is0.flatMap g=total):W (By (As v) (λ_=>True) body (is0.map f)) ⟨loc,σ++[.list (dl0.map zCW)]⟩ Q:=by
 refine E2 (λdn st'=>A st'.loc/\st'.sto=σ++[.list ((dl0++dn.flatMap g).map zCW)]) (λ_ _ _=>trivial) (λdn i rest st' he J=>?_) (λst' J=>?_) ⟨hA,by rw[List.flatMap_nil,lJ0]⟩
 ·obtain⟨l,σ1⟩:=st';obtain⟨a,e⟩:=J
  cases e;refine⟨Be l v (f i),rfl,(hbody l _ i (rest.flatMap g) a (by rw[←h0,he,List.flatMap_append,List.flatMap_cons,lq8])).mono ?_⟩
  rintro fl ⟨l2,σ2⟩ ⟨rfl,a2,e2⟩
  exact⟨a2,by rw[List.flatMap_append,List.flatMap_singleton,←lq8];exact e2⟩
 ·obtain⟨l,σ1⟩:=st';obtain⟨a,e⟩:=J
  cases e;rw[h0];exact hQ l a
theorem zC6{α:Type}(σ:List α)(x y:α):(σ++[x]).set σ.length y=σ++[y]:=by
 rw[lC8 _ _ (lN4 _),lN1];rfl
theorem zCP{R C:Nat}{c:Cn}(g:(c.t<c.b/\c.b<=R)/\c.l<c.r/\c.r<=C)(hR:R<=20)(hC:C<=20){st:St}{Q:D->St->Prop}(hQ:Q (.ref st.sto.length) ⟨st.loc,st.sto++[.list ((O9 c.bn).map zCW)]⟩):W (G0 [Ce c]) st Q:=by
 have hsl:(5000:Nat)<=sizeLine:=by decide
 have hln:(O9 c.bn).length<=400:=by
  rw[zAT];exact lL0 (show c.b - c.t<=20 by exact Ck (Ac x0 (.n 20)) [Ac x1 x2,Ac x2 (.n 20),Ac x0 x1] rT g.1.2 hR (Eb _ _)) (show c.r - c.l<=20 by exact Ck (Ac x0 (.n 20)) [Ac x1 x2,Ac x2 (.n 20),Ac x0 x1] rT g.2.2 hC (Eb _ _))
 have rg:∀{a b:Nat}(S:St),a<=b->b<=20->Cj [.int (a:Int),.int ((a:Int)+((b:Int) - a))] S=.ok ⟨(List.range (b - a)).map λj=>D.int ((a+j:Nat):Int),λ_=>True⟩ S:=λS h1 h2=>M8 rfl (by exact Kl (λZ=>Az [_,_] [Ae (.a x0 (.s x1 x0)) x1] rT Z) (λZ=>Az [_,_] [Ae x1 (.a x0 (.s x1 x0))] rT Z)) (by exact Cp (Ac x0 (.n 100000)) [Ac x0 x1,Ac x1 (.n 20)] rT h1 h2) (by exact lk h2 rfl)
 refine Bu rfl ?_
 unfold M5;generalize hb:Dk Br [0] [Ce c]=lb
 have b0:lb 0=some (Ce c):=by rw[←hb];rfl
 refine Ax (run_set (Hz (l:=lb) rfl (by show 0<=_;exact zN9 hsl rfl))) ?_
 have q0:∀S:St,Aj (Ce c) (.int 0) S=.ok (.int (c.t:Int)) S:=λS=>rfl
 have q1:∀S:St,Aj (Ce c) (.int 1) S=.ok (.int (c.l:Int)) S:=λS=>rfl
 have q2:∀S:St,Aj (Ce c) (.int 2) S=.ok (.int ((c.b:Int) - c.t)) S:=λS=>rfl
 have q3:∀S:St,Aj (Ce c) (.int 3) S=.ok (.int ((c.r:Int) - c.l)) S:=λS=>rfl
 have ra:∀(n:Nat) (i2:Int) (l:Bm) (σ:C3) (x y:Int),l 0=some (Ce c)->(∀S:St,Aj (Ce c) (.int (n:Int)) S=.ok (.int x) S)->(∀S:St,Aj (Ce c) (.int i2) S=.ok (.int y) S)->A9 (Ad Aj (A6 0) (A8 (.int (n:Int)))) (A9 (Ad B0 (Ad Aj (A6 0) (A8 (.int (n:Int)))) (Ad Aj (A6 0) (A8 (.int i2)))) Ai) ⟨l,σ⟩=.ok [.int x,.int (x+y)] ⟨l,σ⟩:=λn i2 l σ x y h e1 e2=>A5 (Ab (A7 h) rfl (e1 _)) (A5 (A5 (Ab (Ab (A7 h) rfl (e1 _)) (Ab (A7 h) rfl (e2 _)) rfl) rfl) rfl)
 refine Al (Wb (Aa (A5 (ra 0 2 _ _ _ _ b0 q0 q2) (rg _ (lM6 g.1.1) (lM7 g.1.2 hR))) ?_))
 refine Us (A:=λl=>l 0=some (Ce c)/\l 1=some (.ref st.sto.length)) (g:=zLk c.bn) (total:=O9 c.bn) (λl dl i rest a ht=>?_) (λl a=>?_) (List.range (c.b - c.t)) [] _ ⟨b0,rfl⟩ rfl
 ·refine Al (Wb (Aa (A5 (ra 1 3 _ _ _ _ a.1 q1 q3) (rg _ (lM6 g.2.1) (lM7 g.2.2 hC))) ?_))
  refine Us (A:=λl=>(l 0=some (Ce c)/\l 1=some (.ref st.sto.length))/\l 2=some (.int ((c.t+i:Nat):Int))) (g:=λj=>[[((c.t+i:Nat):Int),((c.l+j:Nat):Int)]]) (total:=dl++zLk c.bn i) (λl2 dl2 j rest2 a2 ht2=>?_) (λl2 a2=>Aa rfl ⟨rfl,a2.1,rfl⟩) (List.range (c.r - c.l)) dl _ ⟨a,rfl⟩ rfl
  have h1:=lO2 List.length ht;have h2:=lO2 List.length ht2;simp only[lq7,lC5]at h1 h2;refine Ax (Er (v:=zCW [((c.t+i:Nat):Int),((c.l+j:Nat):Int)]) (A7 (i:=1) a2.1.2) lq3 (by rw[lq6];exact X6 λZ=>An [_,_,_,_,_,_,_] [Ae x0 x1,Ac (.n 5000) x0,Ac x2 (.n 400),eq1 (.a x3 (.a x4 x5)) x2,eq1 (.a x1 (.a (.n 1) x6)) (.a x3 x4),Ac (.n 0) x5,Ac (.n 0) x6] rT Z hsl hln h1 h2 (lq5 _) (lq5 _)) (Kj (ds:=[_,_]) (A5 (A7 (i:=2) a2.2) (A5 (A5 rfl rfl) rfl)) (by decide:2<=sizeLine))) (Aa rfl ⟨rfl,a2,?_⟩)
  show(st.sto++[PO.list (dl2.map zCW)]).set st.sto.length _=_
  rw[zC6,lJ5];rfl
 ·exact Al (Wb (Aa (A7 (i:=1) a.2) (Aa rfl hQ)))
end
section
open Builtin.Str
theorem Kp.setD(hk:σ[k]? =some (.dict ks)):Kp σ (σ.set k (.dict es)):=
 ⟨by rw[lJ4];exact lN4 _,λi ds e=>by rw[lD3 (λz=>by rw[z,e]at hk;cases hk)];exact e⟩
theorem Dr.setD(h:Dr σ)(hk:σ[k]? =some (.dict ks)):Dr (σ.set k (.dict es)):=by
 obtain⟨m,e,hm⟩:=h;refine⟨m,?_,λi q=>?_⟩
 ·rw[lD3 (λz=>by rw[z,e]at hk;cases hk)];exact e
 ·rw[lD3 (λz=>by rw[z,hm i q]at hk;cases hk)];exact hm i q
theorem zH5(h:S.sto[k]? =some (.dict ks)):zIq (zCW x) (.ref k) S=.ok (.bool (ks.contains x)) S:=
 A5 (b:=ks.contains x) ((Jn h).trans (by rw[Fa];rfl)) rfl
theorem zC9(hv:mv S=.ok v S)(ho:mo S=.ok (.ref k) S)(hi:mi S=.ok (zCW x) S)(h:S.sto[k]? =some (.dict ks))(hl:ks.length<=sizeLine):J1 mv mo mi S=.ok .next ⟨S.loc,S.sto.set k (.dict (Qx ks x))⟩:=
 A5 hv (A5 ho (A5 hi ((Jn h).trans (by rw[Fa];exact C8 hl))))
theorem zEE(h:S.sto[k]? =some (.dict ks))(h2:ks.length<2 ^ 62):Cf [.ref k] S=.ok (.int ks.length) S:=by
 show zIL k S.sto[k]? S=_
 rw[h];exact C8 h2
structure ML (R C kc:Nat)(l:Bm):Prop where
 l0:l 0=some (.int (R:Int))
 l1:l 1=some (.int (C:Int))
 l2:l 2=some (.ref kc)
noncomputable def zJd:Mn Fl:=(Ag (Ex (C1 zIq (A6 5) (A6 4)) (Ag botM
 (A8 .next)) (A8 .next))
 (Ag (J1 (A8 (.bool true)) (A6 4) (A6 5))
 (A8 .next)))
noncomputable def zAE:Mn Fl:=(Ag (Af (Af (Af (A9 (A6 3) Ai) G0) Bq) λsrc=>By (As 5) src.g zJd src.ds)
 (A8 .next))
structure zMI (R C kc kt:Nat)(σ:C3)(ks:List (List Int))(st:St):Prop where
 ml:ML R C kc st.loc
 l4:st.loc 4=some (.ref kt)
 tab:Dr st.sto
 kp:Kp σ st.sto
 dic:st.sto[kt]? =some (.dict ks)
theorem zBa{σ:C3}{loc:Bm}(g:(c.t<c.b/\c.b<=R)/\c.l<c.r/\c.r<=C)(hR:R<=20)(hC:C<=20)(J:zMI R C kc kt σ ks ⟨loc,σ2⟩)(hl:(ks++O9 c.bn).length<=1000)(hn:(ks++O9 c.bn).Nodup)(l3:loc 3=some (Ce c)):
  W zAE ⟨loc,σ2⟩ λfl st'=>fl=.next/\zMI R C kc kt σ (ks++O9 c.bn) st':=by
 have hsl:(1000:Nat)<=sizeLine:=by decide
 unfold zAE;refine Al (Wb (Wb (Wb (Aa (A5 (A7 l3) rfl) (zCP g hR hC (zKr lq3 ?_))))))
 refine E2 (λdn st'=>zMI R C kc kt σ (ks++dn) st'/\Kp (σ2++[.list ((O9 c.bn).map zCW)]) st'.sto) (λdn st' h=>h.2.2 _ _ lq3) (λdn x rest st' hx h=>?_) (λst' h=>Aa rfl ⟨rfl,h.1⟩) ⟨⟨J.ml,J.l4,J.tab.ext (.app _ _),J.kp.trans (Cq.app _ _).kp,by rw[lJ0];exact(Cq.app _ _).get J.dic⟩,⟨lN4 _,λ_ _ e=>e⟩⟩
 obtain⟨⟨m,a4,t,k,dc⟩,k2⟩:=h;rw[hx,←lq8]at hn hl;have hc:(ks++dn).contains x=false:=by
  cases q:(ks++dn).contains x with
  |false=>rfl
  |true=>exact absurd rfl ((lG5.mp hn).2.2 x (lC3.mp q) x lq1)
 rw[lq7]at hl;refine⟨Be st'.loc 5 (zCW x),rfl,Da (b:=false) (B8 rfl (A7 (i:=4) a4) (zH5 dc) (by rw[hc];rfl)) (λz=>by cases z) λ_=>Aa rfl (Ax (zC9 rfl (A7 (i:=4) a4) rfl dc (by exact Ck (Ac x1 x0) [Ac (.n 1000) x0,Ac (.a x1 x2) (.n 1000),Ac (.n 0) x2] rT hsl hl (lq5 _))) (Aa rfl ⟨⟨⟨m.l0,m.l1,m.l2⟩,a4,t.setD dc,k.trans (Kp.setD dc),?_⟩,k2.trans (Kp.setD dc)⟩))⟩
 show(st'.sto.set kt _)[kt]? =_
 rw[lB8 (lq2 dc).1,←lq8];unfold Qx;rw[hc];rfl
theorem zLI{R C:Nat}{cs cf:List Cn}{kc:Nat}{st:St}{Q:D->St->Prop}(hR1:1<=R)(hR:R<=20)(hC1:1<=C)(hC:C<=20)(p:cf.Perm cs)(T:Nf R C (cs.map Cn.bn))(tx:∀c,c∈cs->X4 c.x)(hl:cs.length<=400)(h0:Dr st.sto)(hk:st.sto[kc]? =some (.list (cf.map Ce)))
  (hQ:∀r σ',Dr σ'->Kp st.sto σ'->σ'[r]? =some (.list (cs.map Ce))->Q (.tup [.int (R:Int),.int (C:Int),.ref r]) ⟨st.loc,σ'⟩):W (Xv [.int (R:Int),.int (C:Int),.ref kc]) st Q:=by
 have hsl:(1000:Nat)<=sizeLine:=by decide
 have hRC:R*C<=400:=lL0 hR hC
 obtain⟨hnd,hln⟩:=zGt T (p.map Cn.bn);have good:∀c,c∈cf->(c.t<c.b/\c.b<=R)/\c.l<c.r/\c.r<=C:=λc m=>T.good c.bn (lM4.mpr ⟨c,p.mem_iff.mp m,rfl⟩)
 refine Bu rfl ?_
 unfold zCx;generalize hb:Dk Br [0,1,2] [D.int (R:Int),.int (C:Int),.ref kc]=lb
 have L:ML R C kc lb:=⟨by rw[←hb];rfl,by rw[←hb];rfl,by rw[←hb];rfl⟩
 clear hb;refine Al (zKS (zOg (Wb (Wb (Wb (Aa (A5 (A7 L.l0) rfl) (Rv hR1 hR (Aa rfl (Aa rfl ?_)))))))))
 refine Wb (Wb (Wb (Aa (A5 (A7 L.l1) rfl) (Rv hC1 hC (Aa rfl (Aa rfl (Aa rfl ?_)))))))
 refine Al (Wb (Aa (A5 (A7 L.l2) (Cv hk)) ?_))
 refine E2 (λ_ st'=>ML R C kc st'.loc/\Cq st.sto st'.sto) (λ_ _ h=>h.2.get hk) (λdn c rest st' hc h=>?_) (λst1 h=>?_) ⟨L,.refl _⟩
 ·have mc:c∈cf:=by rw[hc];exact lC6 _ lq1
  exact⟨Be st'.loc 3 (Ce c),rfl,Al (Wb (Wb (Aa (A5 rfl (A5 (A5 (A7 (i:=0) h.1.l0) (A5 (A5 (A7 (i:=1) h.1.l1) rfl) rfl)) rfl)) (zL5 (good c mc) (tx c (p.mem_iff.mp mc)) λj2=>Aa rfl (Aa rfl ⟨⟨h.1.l0,h.1.l1,h.1.l2⟩,h.2.trans (.app _ _)⟩)))))⟩
 ·obtain⟨L',xa⟩:=h;refine Ax (run_set (d:=.ref st1.sto.length) (st1:=⟨st1.loc,st1.sto++[.dict []]⟩) rfl) ?_
  have x1:Cq st.sto (st1.sto++[PO.dict []]):=xa.trans (.app _ _)
  have hk2:=x1.get hk;refine Al (Wb (Aa (A5 (A7 (i:=2) L'.l2) (Cv hk2)) ?_))
  refine E2 (λdn st'=>zMI R C kc st1.sto.length (st1.sto++[.dict []]) ((dn.map Cn.bn).flatMap O9) st') (λ_ _ h=>h.kp.2 _ _ hk2) (λdn c rest st' he J=>?_) (λst2 J=>?_) ⟨⟨L'.l0,L'.l1,L'.l2⟩,rfl,h0.ext x1,⟨lN4 _,λ_ _ e=>e⟩,lq3⟩
  ·have mc:c∈cf:=by rw[he];exact lC6 _ lq1
   have hfl:(cf.map Cn.bn).flatMap O9=(dn.map Cn.bn).flatMap O9++O9 c.bn++(rest.map Cn.bn).flatMap O9:=by
    rw[he,lJ5,lL4,List.flatMap_append,List.flatMap_cons,lq8]
   rw[hfl]at hnd hln;refine⟨Be st'.loc 3 (Ce c),rfl,(zBa (loc:=Be st'.loc 3 (Ce c)) (good c mc) hR hC ⟨⟨J.ml.l0,J.ml.l1,J.ml.l2⟩,J.l4,J.tab,J.kp,J.dic⟩ (by rw[lq7]at hln;lia) (lG5.mp hnd).1 rfl).mono ?_⟩
   rintro fl st3 ⟨rfl,J3⟩
   show zMI _ _ _ _ _ _ st3
   rw[lJ5,List.flatMap_append,List.map_singleton,List.flatMap_singleton];exact J3
  ·obtain⟨L2,a4,t',k',hk'⟩:=J;refine Da (b:=decide ((((cf.map Cn.bn).flatMap O9).length:Int)<(R:Int)*(C:Int))) (B8 (A5 (A5 (A7 a4) rfl) (zEE hk' (by lia))) (Ab (A7 L2.l0) (A7 L2.l1) (En (by rw[Dt (by lia) (by lia)];rfl))) rfl rfl) (λz=>?_) λ_=>Aa rfl ?_
   ·have z':=lH3 z;rw[hln,lI9]at z';exact False.elim (Az [_] [Ae x0 x0] rT z')
   ·refine Al (Wb (Wb (Wb (Aa (A7 L2.l0) (Wb (Wb (Aa (A7 L2.l1) (Wb (Wb (Wb (Aa (A5 (A7 L2.l2) rfl) ?_)))))))))))
    have kk:Kp st.sto st2.sto:=x1.kp.trans k'
    refine Qd t' (kk.2 _ _ hk) p hl ((lG6 (f:=Cn.bn)).mp T.ord) (λc m=>?_) λr σ3 t3 k3 _ hr=>?_
    ·have hq1:=(T.good c.bn (lM4.mpr ⟨c,m,rfl⟩)).2;show c.bn.l<1000
     lia
    ·exact Aa rfl (Aa rfl (Aa rfl (Aa rfl (Aa rfl (hQ r σ3 t3 (kk.trans k3) hr)))))
end
section
open Builtin.Str
theorem X0{k1:Nat}{ix:Int}{sel:Qb->Nat}(hsel:∀q S,Aj (qD q) (.int ix) S=.ok (.int (sel q:Int)) S){qs:List Qb}{σ:C3}{loc:Bm}(l1:loc 1=some (.ref k1))(hk:σ[k1]? =some (.list (qs.map qD)))(hl:qs.length<=400):
  Af (Af (A6 1) Bq) (C7 [5] (As 5) (A8 true) (Ad Aj (A6 5) (A8 (.int ix)))) ⟨loc,σ⟩=.ok (.ref σ.length) ⟨loc,σ++[.list (qs.map λq=>D.int (sel q))]⟩:=
 A5 (A5 (A7 l1) (Cv hk)) (Gl (λq=>D.int (sel q)) (λ_=>True) (lk hl rfl) hk trivial (λ_ _ h=>h) λq _ l _=>Ab rfl rfl (hsel q _))
section
variable {cs:List Cn}{R C:Nat}{Fy Fx:List Int}{kr:Nat}{σ:C3}
theorem Wl{Y:Nat->Nat}{v k1:Nat}{i1 i2:Int}{s1 s2:Qb->Nat}(h1:∀q S,Aj (qD q) (.int i1) S=.ok (.int (s1 q:Int)) S)(h2:∀q S,Aj (qD q) (.int i2) S=.ok (.int (s2 q:Int)) S){qs:List Qb}{loc:Bm}{Q:Fl->St->Prop}(l1:loc 1=some (.ref k1))(hk:σ[k1]? =some (.list (qs.map qD)))(hl:qs.length<=400)
  (L:zCT Y R) (hR:R<=20) (c1:∀q,q∈qs->(∃i,i<=R/\s1 q=Y i)/\∃i,i<=R/\s2 q=Y i) (c2:∀i,i<=R->∃q,q∈qs/\(s1 q=Y i∨s2 q=Y i))
  (hQ:∀k σ',Cq σ σ'->σ'[k]? =some (.list (zBU Y R))->Q .next ⟨Be loc v (.ref k),σ'⟩):
  W (Af (Af (Ad B0 (Af (Af (A6 1) Bq) (C7 [5] (As 5) (A8 true) (Ad Aj (A6 5) (A8 (.int i1))))) (Af (Af (A6 1) Bq) (C7 [5] (As 5) (A8 true) (Ad Aj (A6 5) (A8 (.int i2)))))) Ht) (Ah v)) ⟨loc,σ⟩ Q:=by
 have hs:∀σ':C3,(σ'++[PO.list ((qs.map λq=>D.int (s1 q))++qs.map λq=>D.int (s2 q))])[σ'.length]? =some (.list (((qs.map λq=>(s1 q:Int))++qs.map λq=>(s2 q:Int)).map D.int)):=λσ'=>by rw[lJ5,lM3,lM3];exact lq3
 refine Wb (Aa (A5 (Ab (X0 h1 l1 hk hl) (X0 h2 l1 ((Cq.app _ _).get hk) hl) (P5 ((Cq.app _ _).get lq3) lq3 (by rw[lq6,lq6];exact lk (Nat.add_le_add hl hl) rfl))) (Wg L hR (hs _) (by rw[lq7,lq6,lq6];exact lk (Nat.add_le_add hl hl) rfl) (λn m=>?_) λi hi=>?_)) (Aa rfl (hQ _ _ ((((Cq.app _ _).trans (.app _ _)).trans (.app _ _)).trans (.app _ _)) lq3)))
 ·rcases lJ6.mp m with m|m<;>obtain⟨q,mq,rfl⟩:=lM4.mp m
  ·obtain⟨i,hi,e⟩:=(c1 q mq).1;exact⟨i,hi,by rw[e]⟩
  ·obtain⟨i,hi,e⟩:=(c1 q mq).2;exact⟨i,hi,by rw[e]⟩
 ·obtain⟨q,mq,e|e⟩:=c2 i hi
  ·exact lD4 _ (lM4.mpr ⟨q,mq,by rw[e]⟩)
  ·exact lC6 _ (lM4.mpr ⟨q,mq,by rw[e]⟩)
noncomputable def zLG:Mn Fl:=(Ag (Af (Af (A9 (A6 2) (A9 (Ad Aj (A6 5) (A8 (.int 0))) Ai)) Cy) (Ah 6))
 (Ag (Af (Af (A9 (A6 3) (A9 (Ad Aj (A6 5) (A8 (.int 1))) Ai)) Cy) (Ah 7))
 (Ag (Af (Ad H2 (Af (A9 (A6 2) (A9 (Ad Aj (A6 5) (A8 (.int 2))) Ai)) Cy) (A6 6)) (Ah 8))
 (Ag (Af (Ad H2 (Af (A9 (A6 3) (A9 (Ad Aj (A6 5) (A8 (.int 3))) Ai)) Cy) (A6 7)) (Ah 9))
 (Ag (Af (Af (A6 4) (Dh λk=>Af (D6 (A9 (A6 6) (A9 (A6 7) (A9 (A6 8) (A9 (A6 9) (A9 (Af (A9 (A6 0) (A9 (A6 5) Ai)) Kd) Ai)))))) (Bt k))) Ct)
 (A8 .next))))))
structure TL (kr ky kx kc:Nat)(l:Bm):Prop where
 l0:l 0=some (.ref kr)
 l2:l 2=some (.ref ky)
 l3:l 3=some (.ref kx)
 l4:l 4=some (.ref kc)
structure zO4 (kr ky kx kc:Nat)(σ:C3)(dn:List Cn)(st:St):Prop where
 tl:TL kr ky kx kc st.loc
 ext:Cq σ st.sto
 lst:st.sto[kc]? =some (.list (dn.map Ce))
theorem zJb(g:J5 cs R C Fy Fx)(T:Nf R C (cs.map Cn.bn))(m:c∈cs)(hx:X4 c.x)(r:Ue kr (F3 Fy R) (F3 Fx C) (Jk cs (D3 Fy Fx)) σ0)(gy:σ0[ky]? =some (.list (zBU (Dy Fy) R)))(gx:σ0[kx]? =some (.list (zBU (Dy Fx) C)))(x0:Cq σ0 σ)(hkc:σ0.length<=kc)(hk:σ[kc]? =some (.list (dn.map Ce)))(hdn:dn.length<=400)(L:TL kr ky kx kc loc)(l5:loc 5=some (qD (D3 Fy Fx c))):
  W zLG ⟨loc,σ⟩ λfl st'=>fl=.next/\zO4 kr ky kx kc σ0 (dn++[c]) st':=by
 have hsl:(1000:Nat)<=sizeLine:=by decide
 obtain⟨LY,LX⟩:=g.lns;have h1:=g.row c m;have h2:=g.col c m;have h3:=g.small;unfold zLG;refine Al (Wb (Wb (Aa (A5 (A7 L.l2) (A5 (A5 (Ab (A7 l5) rfl rfl) rfl) rfl)) (Mi (i:=c.t) LY (by lia) (by lia) (x0.get gy) λj1=>Aa rfl ?_))))
 have y1:=x0.trans (.app σ j1);refine Al (Wb (Wb (Aa (A5 (A7 (i:=3) L.l3) (A5 (A5 (Ab (A7 (i:=5) l5) rfl rfl) rfl) rfl)) (Mi (i:=c.l) LX (by lia) (by lia) (y1.get gx) λj2=>Aa rfl ?_))))
 have y2:=y1.trans (.app _ j2);refine Al (Wb (Mg (Wb (Aa (A5 (A7 (i:=2) L.l2) (A5 (A5 (Ab (A7 (i:=5) l5) rfl rfl) rfl) rfl)) (Mi (i:=c.b) LY (by lia) (by lia) (y2.get gy) λj3=>Aa (A7 (i:=6) rfl) (Aa rfl (Aa rfl ?_)))))))
 have y3:=y2.trans (.app _ j3);refine Al (Wb (Mg (Wb (Aa (A5 (A7 (i:=3) L.l3) (A5 (A5 (Ab (A7 (i:=5) l5) rfl rfl) rfl) rfl)) (Mi (i:=c.r) LX (by lia) (by lia) (y3.get gx) λj4=>Aa (A7 (i:=7) rfl) (Aa rfl (Aa rfl ?_)))))))
 have y4:=y3.trans (.app _ j4);have z4:Cq σ (σ++j1++j2++j3++j4):=(((Cq.app _ _).trans (.app _ _)).trans (.app _ _)).trans (.app _ _)
 refine Al (Wb (Wb (Aa (A7 (i:=4) L.l4) (zEZ (z4.get hk) (Wb (zJ4 ?_))))))
 refine Wb (Aa rfl (Wb (Wb (Aa rfl (Wb (Wb (Aa rfl (Wb (Wb (Aa rfl (Wb (Wb (Wb (Aa (A5 (A7 (i:=0) L.l0) (A5 (A5 (A7 (i:=5) l5) rfl) rfl)) (zCF g T m hx (r.kp y4.kp) λj5=>?_)))))))))))))))
 refine Aa rfl (Aa rfl (Aa rfl (Aa rfl (Aa rfl ⟨(by decide:5<=sizeLine),Ys ((z4.trans (.app _ j5)).get hk) (by rw[lq6];lia) (Aa rfl (Aa rfl ⟨rfl,⟨L.l0,L.l2,L.l3,L.l4⟩,(y4.trans (.app _ j5)).set hkc,?_⟩))⟩))))
 show(_:C3)[kc]? =_
 rw[Im ((z4.trans (.app _ j5)).get hk),lJ5];rfl
end
end
section
open Builtin.Str
theorem Pv:∀{cs:List Cn},(∀c,c∈cs->(cl c.x).all Mv=true)->∃ps,F8 (cs.map Ce)=some ps/\PyData.canLayAll0 ps=true/\PyData.depthAll ps<=48
 |[],_=>⟨[],rfl,rfl,by simp[PyData.depthAll]⟩
 |c::cs,h=>by
  obtain⟨ps,e1,e2,e3⟩:=Pv (cs:=cs) λc m=>h c (lq4 _ m)
  have hx:=zKH (h c lq1);refine⟨.tuple [.int c.t,.int c.l,.int ((c.b:Int) - c.t),.int ((c.r:Int) - c.l),.str c.x]::ps,?_,?_,?_⟩
  ·rw[lL4];show(Vy (Ce c)).bind (λx=>(F8 (cs.map Ce)).map (x:: ·))=_
   rw[e1];rfl
  ·simp[PyData.canLayAll0,PyData.canLay0,hx,e2]
  ·have:PyData.depth (.tuple [.int c.t,.int c.l,.int ((c.b:Int) - c.t),.int ((c.r:Int) - c.l),.str c.x])<=48:=by simp[PyData.depth,PyData.depthAll]
   rw[PyData.depthAll];lia
theorem zHI(h1:S.sto[k]? =some (.list ds))(h2:S.sto[l]? =some (.list ds))(hp:F8 ds=some ps)(hc:PyData.canLayAll0 ps=true)(hd:PyData.depthAll ps<=48):Ho (.tup [.int a,.int b,.ref k]) (.tup [.int a,.int b,.ref l]) S=.ok (.bool false) S:=by
 have go:∀{j:Nat},S.sto[j]? =some (.list ds)->N1 S.sto [.int a,.int b,.ref j]=some [.int a,.int b,.list ps]:=λ{j} h=>by
  show(Lf S.sto (.int a)).bind _=_
  show((Lf S.sto (.int b)).bind λx=>((Lf S.sto (.ref j)).bind λy=>some [y]).map (x:: ·)).map (PyData.int a:: ·)=_
  rw[Z9 h,hp];rfl
 have hcl:PyData.canLay0 (.tuple [.int a,.int b,.list ps])=true:=by simp[PyData.canLay0,PyData.canLayAll0,hc]
 have hdl:PyData.depth (.tuple [.int a,.int b,.list ps])<=50:=by
  simp only[PyData.depth,PyData.depthAll];lia
 show zNi _ _ S=_
 unfold zNi;rw[go h1,go h2];refine(C8 ⟨hcl,hcl,hdl⟩).trans ?_
 rw[SeqAt.eqv_refl _ hcl];rfl
section
variable {cs:List Cn}{R C:Nat}{Fy Fx:List Int}
theorem J5.no10(g:J5 cs R C Fy Fx)(T:Nf R C (cs.map Cn.bn))(tx:∀c,c∈cs->X4 c.x)(y x:Nat):Jk cs (D3 Fy Fx) y x≠10:=by
 have p:=g.pic T;by_cases q:∃b,b∈cs.map Cn.bn/\zB4 (Dy Fy) (Dy Fx) b y x
 ·obtain⟨b,mb,hi⟩:=q;obtain⟨c,mc,rfl⟩:=lM4.mp mb;rw[p.ins c.bn mb y x hi];split
  ·rw[Xl T mc];unfold zGU
   cases e:(Txt.split c.x ⟨#[10]⟩)[y - (Dy Fy c.bn.t+2)]? with
   |none=>show(32:Nat)≠10;decide
   |some ln=>
    show((cl ln)[x - (Dy Fx c.bn.l+2)]?).getD 32≠10
    cases e2:(cl ln)[x - (Dy Fx c.bn.l+2)]? with
    |none=>show(32:Nat)≠10;decide
    |some s=>
     show s≠10
     intro z;rw[z]at e2;have:cl ln∈Cu 10 (cl c.x):=by rw[←Gu];exact lM4.mpr ⟨ln,lD5 e,rfl⟩
     exact((I9 (tx c mc).good).1 _ this).no10 (lD5 e2)
  ·decide
 ·rw[p.out y x λb mb hi=>q ⟨b,mb,hi⟩]
  unfold zBx;split
  ·decide
  ·split
   ·decide
   ·split<;>decide
theorem J5.rows(g:J5 cs R C Fy Fx)(T:Nf R C (cs.map Cn.bn))(tx:∀c,c∈cs->X4 c.x)(hx:cl x=Bz 10 (Di (F3 Fy R) (F3 Fx C) (Jk cs (D3 Fy Fx)))):(Txt.split x ⟨#[10]⟩).map cl=Di (F3 Fy R) (F3 Fx C) (Jk cs (D3 Fy Fx))/\x.length+2<=sizeLine:=by
 have hz:=g.size;constructor
 ·rw[Gu,hx,M3]
  ·unfold Di;intro z;have:=lO2 List.length z
   simp[F3]at this
  ·intro a ma m10;unfold Di at ma;obtain⟨i,_,rfl⟩:=lM4.mp ma;obtain⟨j,_,e⟩:=lM4.mp m10;exact g.no10 T tx i j e
 ·have:=G4 10 (B:=F3 Fx C) (Di (F3 Fy R) (F3 Fx C) (Jk cs (D3 Fy Fx))) λa ma=>by
   unfold Di at ma;obtain⟨i,_,rfl⟩:=lM4.mp ma;simp
  rw[←hx,Bb]at this;have e:(Di (F3 Fy R) (F3 Fx C) (Jk cs (D3 Fy Fx))).length=F3 Fy R:=by unfold Di;simp
  rw[e]at this;have h2:F3 Fy R*(F3 Fx C+1)<=4081*4082:=lL0 (by show(Fy.getD R 0).toNat+1<=_;exact X7 (Ac (.a x0 (.n 1)) (.n 4081)) [Ac x0 (.n 4080)] rT hz.1) (by show(Fx.getD C 0).toNat+1+1<=_;exact X7 (Ac (.a (.a x0 (.n 1)) (.n 1)) (.n 4082)) [Ac x0 (.n 4080)] rT hz.2)
  have h3:(4081*4082+2:Nat)<=sizeLine:=by decide
  exact Ck (Ac (.a x0 (.n 2)) x1) [Ac x0 x2,Ac x2 (.m 4081 (.n 4082)),Ac (.a (.m 4081 (.n 4082)) (.n 2)) x1] rT this h2 h3
theorem Yn(g:J5 cs R C Fy Fx)(T:Nf R C (cs.map Cn.bn))(tg:zLf R C cs)(tx:∀c,c∈cs->X4 c.x)(hl:cs.length<=400)(hR1:1<=R)(hC1:1<=C)(r:Ue kr (F3 Fy R) (F3 Fx C) (Jk cs (D3 Fy Fx)) σ)(h0:Dr σ)(hQ:∀r σ',Dr σ'->Kp σ σ'->σ'[r]? =some (.list (cs.map Ce))->Q (.tup [.int (R:Int),.int (C:Int),.ref r]) ⟨loc,σ'⟩):W (La [.ref kr]) ⟨loc,σ⟩ Q:=by
 have hsl:(1000:Nat)<=sizeLine:=by decide
 have N:=g.net T;obtain⟨LY,LX⟩:=g.lns;have hsm:=g.small;have y0:Dy Fy 0=0:=by unfold Dy;rw[g.ly.at0];rfl
 have x0:Dy Fx 0=0:=by unfold Dy;rw[g.lx.at0];rfl
 refine Bu rfl ?_
 unfold Pr;generalize hb:Dk Br [0] [D.ref kr]=lb
 have b0:lb 0=some (.ref kr):=by rw[←hb];rfl
 clear hb;refine Al (Wb (Wb (Aa (A5 (A7 b0) rfl) (Z8 N (g.pic T) r (by rw[lq6];exact hl) hR1 hC1 y0 x0 λfo k1 σ1 pf x1 hk1=>Aa rfl ?_))))
 obtain⟨cf,pc,rfl⟩:=zDp pf;have e1:(cf.map Cn.bn).map (zFu (Dy Fy) (Dy Fx))=(cf.map (D3 Fy Fx)).map qD:=by rw[lM3,lM3];rfl
 rw[e1]at hk1;have hcf:cf.length<=400:=by rw[pc.length_eq];exact hl
 have mem:∀q,q∈cf.map (D3 Fy Fx)->∃c,c∈cs/\q=D3 Fy Fx c:=λq m=>by
  obtain⟨c,mc,rfl⟩:=lM4.mp m;exact⟨c,pc.mem_iff.mp mc,rfl⟩
 have mem2:∀c,c∈cs->D3 Fy Fx c∈cf.map (D3 Fy Fx):=λc m=>lM4.mpr ⟨c,pc.mem_iff.mpr m,rfl⟩
 refine Al (Wl (Y:=Dy Fy) (R:=R) (s1:=Qb.n) (s2:=Qb.s) (λ_ _=>rfl) (λ_ _=>rfl) (loc:=Be lb 1 (.ref k1)) rfl hk1 (by rw[lq6];exact hcf) LY hsm.1 (λq mq=>?_) (λi hi=>?_) λky σ2 x2 hy=>?_)
 ·obtain⟨c,mc,rfl⟩:=mem q mq;have hq1:=g.row c mc;exact⟨⟨c.t,by lia,rfl⟩,c.b,by lia,rfl⟩
 ·rcases lF6 hi with q|q
  ·obtain⟨c,mc,hc⟩:=lH8.mp (tg.row i q);have hc:c.t=i:=lN8.mp hc
   exact⟨_,mem2 c mc,.inl (by rw[←hc];rfl)⟩
  ·obtain⟨b,mb,hb⟩:=T.cov (R - 1) 0 (by lia) (by lia)
   obtain⟨c,mc,rfl⟩:=lM4.mp mb;have hb:(c.t<=R - 1/\R - 1<c.b)/\c.l<=0/\0<c.r:=hb
   have hq2:=g.row c mc;refine⟨_,mem2 c mc,.inr ?_⟩
   rw[q,show R=c.b by lia];rfl
 refine Al (Wl (Y:=Dy Fx) (R:=C) (s1:=Qb.w) (s2:=Qb.e) (λ_ _=>rfl) (λ_ _=>rfl) (loc:=Be (Be lb 1 (.ref k1)) 2 (.ref ky)) rfl (x2.get hk1) (by rw[lq6];exact hcf) LX hsm.2 (λq mq=>?_) (λi hi=>?_) λkx σ3 x3 hx=>?_)
 ·obtain⟨c,mc,rfl⟩:=mem q mq;have hq3:=g.col c mc;exact⟨⟨c.l,by lia,rfl⟩,c.r,by lia,rfl⟩
 ·rcases lF6 hi with q|q
  ·obtain⟨c,mc,hc⟩:=lH8.mp (tg.col i q);have hc:c.l=i:=lN8.mp hc
   exact⟨_,mem2 c mc,.inl (by rw[←hc];rfl)⟩
  ·obtain⟨b,mb,hb⟩:=T.cov 0 (C - 1) (by lia) (by lia)
   obtain⟨c,mc,rfl⟩:=lM4.mp mb;have hb:(c.t<=0/\0<c.b)/\c.l<=C - 1/\C - 1<c.r:=hb
   have hq4:=g.col c mc;refine⟨_,mem2 c mc,.inr ?_⟩
   rw[q,show C=c.r by lia];rfl
 have xx:=(x1.trans x2).trans x3;refine Ax (run_set (Hz rfl (by show 0<=_;lia))) ?_
 refine Al (Wb (Aa (A5 (A7 (i:=1) rfl) (Cv (((x2.trans x3).trans (.app _ _)).get hk1))) ?_))
 show W (By _ _ zLG ((cf.map (D3 Fy Fx)).map qD)) _ _
 rw[lM3]at hk1 ⊢;refine E2 (zO4 kr ky kx σ3.length σ3) (λ_ _ J=>((x2.trans x3).trans J.ext).get hk1) (λdn c rest st' he J=>?_) (λst4 J=>?_) ⟨⟨b0,rfl,rfl,rfl⟩,.app _ _,lq3⟩
 ·have mc:c∈cs:=pc.mem_iff.mp (by rw[he];exact lC6 _ lq1)
  have hlen:=lO2 List.length he;simp only[lq7,lI0]at hlen;exact⟨Be st'.loc 5 (qD (D3 Fy Fx c)),rfl,(zJb (loc:=Be st'.loc 5 (qD (D3 Fy Fx c))) g T mc (tx c mc) (r.kp xx.kp) (x3.get hy) hx J.ext (lN4 _) J.lst (by lia) ⟨J.tl.l0,J.tl.l2,J.tl.l3,J.tl.l4⟩ rfl).mono λfl st5 h=>by obtain⟨rfl,h⟩:=h;exact h⟩
 ·obtain⟨L,x4,hk4⟩:=J;have lY:(zBU (Dy Fy) R).length=R+1:=by unfold zBU;simp
  have lX:(zBU (Dy Fx) C).length=C+1:=by unfold zBU;simp
  have r1:H2 (.int ((zBU (Dy Fy) R).length:Int)) (.int 1) st4=.ok (.int (R:Int)) st4:=by
   show Re.ok (D.int (((zBU (Dy Fy) R).length:Int) - 1)) (st4:St)=_
   rw[lY,show((R+1:Nat):Int) - 1=R by lia]
  have r2:H2 (.int ((zBU (Dy Fx) C).length:Int)) (.int 1) st4=.ok (.int (C:Int)) st4:=by
   show Re.ok (D.int (((zBU (Dy Fx) C).length:Int) - 1)) (st4:St)=_
   rw[lX,show((C+1:Nat):Int) - 1=C by lia]
  refine Al (Wb (Wb (Aa (a:=[.int (R:Int),.int (C:Int),.ref σ3.length]) (A5 (Ab (A5 (A5 (A7 L.l2) rfl) (E6 ((x3.trans x4).get hy) (by lia))) rfl r1) (A5 (A5 (Ab (A5 (A5 (A7 L.l3) rfl) (E6 (x4.get hx) (by lia))) rfl r2) (A5 (A5 (A7 L.l4) rfl) rfl)) rfl)) ?_)))
  refine zLI hR1 hsm.1 hC1 hsm.2 pc T tx hl (h0.ext (xx.trans x4)) hk4 λrr σ6 t6 k6 hr6=>Aa rfl ?_
  exact hQ rr σ6 t6 ((xx.trans x4).kp.trans k6) hr6
theorem Si(T:Nf R C (cs.map Cn.bn))(tx:∀c,c∈cs->X4 c.x)(hl:cs.length<=400)(hR1:1<=R)(hC1:1<=C)(hR:R<=20)(hC:C<=20):zEb R C cs:=by
 have g:∀c,c∈cs->(c.t<c.b/\c.b<=R)/\c.l<c.r/\c.r<=C:=λc m=>T.good c.bn (lM4.mpr ⟨c,m,rfl⟩)
 exact⟨hl,(lG6 (f:=Cn.bn)).mp T.ord,λc m=>⟨lM6 (g c m).1.1,(g c m).1.2⟩,λc m=>⟨lM6 (g c m).2.1,(g c m).2.2⟩,hR1,hC1,by exact lk hR rfl,by exact lk hC rfl,λc m=>(tx c m).ok⟩
theorem zAh(g:J5 cs R C Fy Fx)(T:Nf R C (cs.map Cn.bn))(tg:zLf R C cs)(tx:∀c,c∈cs->X4 c.x)(hl:cs.length<=400)(hR1:1<=R)(hC1:1<=C){x:Str}(hx:cl x=Bz 10 (Di (F3 Fy R) (F3 Fx C) (Jk cs (D3 Fy Fx)))){k:Nat}{st:St}{Q:D->St->Prop}(h0:Dr st.sto)(hk:st.sto[k]? =some (.list (cs.map Ce)))
  (hQ:∀σ',Dr σ'->Kp st.sto σ'->Q (.str x) ⟨st.loc,σ'⟩):W (Hb [.tup [.int (R:Int),.int (C:Int),.ref k]]) st Q:=by
 have hsm:=g.small;have gd:∀c,c∈cs->(c.t<c.b/\c.b<=R)/\c.l<c.r/\c.r<=C:=λc m=>T.good c.bn (lM4.mpr ⟨c,m,rfl⟩)
 refine Zn h0 (Si T tx hl hR1 hC1 hsm.1 hsm.2) hsm (λc m=>⟨(gd c m).1.1,(gd c m).2.1⟩) (λc m=>by have:=(tx c m).len;exact lk this rfl) hk λFy2 Fx2 x2 σ' g2 hx2 t2 k2=>?_
 obtain⟨⟨e1,e2⟩,e3⟩:=tg.same T;rw[e1,e2,e3]at g2 hx2;obtain⟨rfl,rfl⟩:=g.uniq g2;rw[show x2=x from Qg (hx2.trans hx.symm)]
 exact hQ σ' t2 k2
theorem zLb(g:J5 cs R C Fy Fx)(T:Nf R C (cs.map Cn.bn))(tg:zLf R C cs)(tx:∀c,c∈cs->X4 c.x)(hl:cs.length<=400)(hR1:1<=R)(hC1:1<=C){x:Str}(hx:cl x=Bz 10 (Di (F3 Fy R) (F3 Fx C) (Jk cs (D3 Fy Fx)))){st:St}{Q:D->St->Prop}(h0:Dr st.sto)
  (hQ:∀r σ',Dr σ'->Kp st.sto σ'->σ'[r]? =some (.list (cs.map Ce))->Q (.tup [.int (R:Int),.int (C:Int),.ref r]) ⟨st.loc,σ'⟩):W (Y8 [.str x]) st Q:=by
 have hsm:=g.small;have hz:=g.size;obtain⟨e1,e2⟩:=g.rows T tx hx;obtain⟨⟨q1,q2⟩,q3⟩:=tg.same T;obtain⟨ps,p1,p2,p3⟩:=Pv λc m=>(tx c m).ok
 refine Bu rfl ?_
 unfold zDv;refine Da (b:=false) rfl (λz=>by cases z) λ_=>Aa rfl ?_
 refine Al (Al (Wb (Wb (Wb (Wb (Aa rfl (Wb (Aa rfl (V1 (c:=10) e2 (Aa rfl (?_)))))))))))
 have x1:Cq st.sto (st.sto++[PO.list ((Txt.split x ⟨#[10]⟩).map D.str)]):=.app _ _
 refine Yn g T tg tx hl hR1 hC1 (kr:=st.sto.length) ⟨⟨_,lq3,e1⟩,by show(Fy.getD R 0).toNat+1<=_;exact X7 (Ac (.a x0 (.n 1)) (.n 5000)) [Ac x0 (.n 4080)] rT hz.1,by show(Fx.getD C 0).toNat+1<=_;exact X7 (Ac (.a x0 (.n 1)) (.n 5000)) [Ac x0 (.n 4080)] rT hz.2⟩ (h0.ext x1) λk σ2 t2 k2 hk2=>Aa rfl (Aa rfl ?_)
 have kk:=x1.kp.trans k2;refine Al (zKS (zOg (Wb (Wb (Aa rfl (zAd t2 (Si T tx hl hR1 hC1 hsm.1 hsm.2) hk2 λr3 σ3 t3 k3 _ hr3=>?_))))))
 rw[q1,q2];rw[q3]at hr3;have hk3:=k3.2 _ _ hk2;refine Wb (Aa rfl (Wb (Aa (zHI hr3 hk3 p1 p2 p3) (Aa rfl ?_))))
 rw[lO5 (by decide)];refine Wb (Wb (Aa rfl (zAh g T tg tx hl hR1 hC1 hx t3 hk3 λσ4 t4 k4=>?_)))
 refine Wb (Aa rfl (Wb (Vo.mpr (Aa (a:=false) (by rw[bne_self_eq_false];rfl) ?_))))
 rw[lO5 (by decide)];exact Aa rfl (Al (Wb (Aa rfl (Aa rfl (hQ k σ4 t4 ((kk.trans k3).trans k4) (k4.2 _ _ hk3))))))
end
end
section
open Builtin.Str
theorem zBL:min 1 ((cs.filter λc=>(lo w c:Int)==(i:Nat)).length:Int)=bif Av w cs i then 1 else 0:=by
 have e:cs.filter (λc=>(lo w c:Int)==(i:Nat))=cs.filter λc=>lo w c==i:=List.filter_congr λc _=>by
  rw[Bool.eq_iff_iff,lN8,lN8];lia
 rw[e]
 cases h:Av w cs i with
 |true=>
  obtain⟨c,mc,hc⟩:=lH8.mp h;have:0<(cs.filter λc=>lo w c==i).length:=List.length_pos_of_mem (List.mem_filter.mpr ⟨mc,hc⟩)
  show min (1:Int) _=1
  lia
 |false=>
  have:(cs.filter λc=>lo w c==i)=[]:=List.filter_eq_nil_iff.mpr λc mc hc=>by
   have:Av w cs i=true:=lH8.mpr ⟨c,mc,hc⟩
   rw[h]at this;cases this
  rw[this];rfl
theorem zI4(h:b 0=true)(i:Nat):kq b 0 (i+1)=kq b 0 i+bif b i then 1 else 0:=by
 rw[Ta]
 cases i with
 |zero=>rw[h,Bool.or_true]
 |succ i=>rw[show Nat.ble (i+1) 0=false from rfl,lL3]
structure zOo (kt:Nat)(w:Bool)(σ:C3)(cs:List Cn)(i:Nat)(st:St):Prop where
 l0:st.loc 0=some (.ref kt)
 l2:st.loc 2=some (.int (wI w))
 l3:st.loc 3=some (.ref σ.length)
 x:Cq σ st.sto
 e:st.sto[σ.length]? =some (.list (L6 (Av w cs) i))
theorem R9{w:Bool}{N kt:Nat}{cs:List Cn}{st:St}{Q:D->St->Prop}(hN:N<=60)(hl:cs.length<=400)(hb:Av w cs 0=true)(hk:st.sto[kt]? =some (.list (cs.map Ce)))
  (hQ:∀k σ',Cq st.sto σ'->σ'[k]? =some (.list (L6 (Av w cs) N))->Q (.ref k) ⟨st.loc,σ'⟩):W (Cg [.ref kt,.int (N:Int),.int (wI w)]) st Q:=by
 refine Bu rfl (Ax (st1:=⟨Be (Dk Br [0,1,2] [.ref kt,.int (N:Int),.int (wI w)]) 3 (.ref st.sto.length),st.sto++[.list [.int 0]]⟩) rfl (Al (Wb (Aa (A5 rfl (P7 (lk hN rfl))) ?_))))
 refine Oq (b:=0) rfl (zOo kt w st.sto cs) (λ_ _ _=>trivial) (λi st' hi J=>?_) (λst' J=>El (G5 (A7 J.l3)) (hQ _ _ J.x J.e)) ⟨rfl,rfl,rfl,.app _ _,lq3⟩
 have hi:=lM6 (lF5 hi hN);have hf:((cs.filter λc=>(lo w c:Int)==(i:Int)).map Ce).length<=400:=by
  rw[lq6];exact lM7 (List.length_filter_le _ _) hl
 refine⟨Be st'.loc 4 (.int i),rfl,Ax (zFE (A7 (i:=3) J.l3) J.e (Ab (Ab (A7 (i:=3) J.l3) rfl (Fh J.e rfl (lN4 _) (lk hi rfl))) (A5 (A5 rfl (A5 (A5 (A5 (A5 (A5 (A5 (A7 (i:=0) J.l0) (Cv (J.x.get hk))) (N0 (λc=>(lo w c:Int)==(i:Int)) Ce (λl=>l 2=some (.int (wI w))/\l 4=some (.int i)) (lk hl rfl) (J.x.get hk) ⟨J.l2,rfl⟩ (λ_ _ h=>h) λc m l hA=>⟨B8 (Ab rfl (A7 hA.1) zJR) (A7 hA.2) rfl rfl,λ_=>rfl⟩)) rfl) (E6 lq3 (zAm hf rfl))) rfl) rfl)) rfl) rfl) ((Cq.app _ _).get J.e) (by rw[Oc];exact lk (lI6 hi) rfl)) (Aa rfl ⟨J.l0,J.l2,J.l3,(J.x.trans (.app _ _)).set (lN4 _),?_⟩)⟩
 show(_:C3)[st.sto.length]? =_
 rw[Im ((Cq.app _ _).get J.e),Uk,zI4 hb,lq6,zBL]
 cases Av w cs i<;>rfl
theorem V8:∀cs:List Cn,Fu (cs.map Ce) (cs.map Ce)=cs.map λc=>D.tup [Ce c,Ce c]
 |[]=>rfl
 |c::cs=>lO2 (D.tup [Ce c,Ce c]:: ·) (V8 cs)
theorem zM6(c:Cn){i:Nat}(h:i<4):∃v,∀S:St,Aj (Ce c) (.int (i:Int)) S=.ok (.int v) S:=by
 rcases i with _|_|_|_|i
 ·exact⟨_,λS=>rfl⟩
 ·exact⟨_,λS=>rfl⟩
 ·exact⟨_,λS=>rfl⟩
 ·exact⟨_,λS=>rfl⟩
 ·exact False.elim (An [_] [Ae (.a (.a (.a (.a x0 (.n 1)) (.n 1)) (.n 1)) (.n 1)) (.n 4),Ac (.n 0) x0] rT h (lq5 _))
theorem zBS:Ej [.int v] S=.ok (.bool true) S:=rfl
theorem zOO{R C:Int}{cs:List Cn}{k k':Nat}{st:St}{Q:D->St->Prop}(hcl:cs.length<=400)(hk:st.sto[k]? =some (.list (cs.map Ce)))(hk':st.sto[k']? =some (.list (cs.map Ce)))(hQ:∀j,Q (.bool true) ⟨st.loc,st.sto++j⟩):
  W (K6 [.tup [.int R,.int C,.ref k],.int R,.int C,.ref k']) st Q:=by
 have e1:∀l:Bm,Hl "list" (.ref k) ⟨l,st.sto⟩=.ok (.bool true) ⟨l,st.sto⟩:=λl=>by
  refine Bg (zMQ.mpr ⟨"list",?_,rfl,rfl⟩)
  exact zG1 hk
 have el:∀(l:Bm) (q:Nat),st.sto[q]? =some (.list (cs.map Ce))->Cf [.ref q] ⟨l,st.sto⟩=.ok (.int cs.length) ⟨l,st.sto⟩:=λl q h=>by
  have:=E6 (st:=⟨l,st.sto⟩) h (by rw[lq6];exact zAm hcl rfl)
  rw[lq6]at this;exact this
 have gz:zDL k k' st.sto.length (cs.map Ce) (cs.map Ce) (st.sto++[.priv]):=⟨(Cq.app _ _).get hk,(Cq.app _ _).get hk',lq3⟩
 refine Bu rfl (Ax (st1:=⟨Dk Br [0,1,2,3] [.tup [.int R,.int C,.ref k],.int R,.int C,.ref k'],st.sto⟩) rfl (Al (Nt (Dv (B8 (t:=R !=R) (Ab rfl rfl rfl) rfl rfl rfl) (bne_self_eq_false _) (Dv (B8 (t:=C !=C) (Ab rfl rfl rfl) rfl rfl rfl) (bne_self_eq_false _) (Dv (A5 (A5 (A5 (Ab rfl rfl rfl) (e1 _)) rfl) rfl) rfl (B8 (t:=(cs.length:Int) !=(cs.length:Int)) (A5 (A5 (Ab rfl rfl rfl) rfl) (el _ _ hk)) (A5 rfl (el _ _ hk')) rfl rfl)))) (bne_self_eq_false _) (Aa rfl (Al (Wb (Wb (Aa rfl (zDN hk hk' ?_)))))))))
 show W (By _ _ _ (Fu (cs.map Ce) (cs.map Ce))) _ _
 rw[V8];refine E2 (λ_ st'=>st'.sto=st.sto++[.priv]) (λ_ _ h=>h▸gz) (λdn c rest st' he h=>?_) (λst' h=>El rfl (by show Q _ ⟨_,st'.sto⟩;rw[h];exact hQ _)) rfl
 refine⟨Be (Be st'.loc 4 (Ce c)) 5 (Ce c),rfl,Al (Nt (Dv rfl rfl (Dv rfl rfl (Dv rfl rfl (B8 (t:=c.x.cps.toList !=c.x.cps.toList) (Ab rfl rfl rfl) (Ab rfl rfl rfl) rfl rfl)))) (bne_self_eq_false _) (Aa rfl (Al (Wb (Aa (A5 rfl (P7 (n:=4) (by decide))) ?_)))))⟩
 refine Oq (b:=0) rfl (λ_ s2=>s2.sto=st.sto++[.priv]/\s2.loc 4=some (Ce c)/\s2.loc 5=some (Ce c)) (λ_ _ _=>trivial) (λi s2 hi h=>?_) (λs2 h=>Aa rfl h.1) ⟨h,rfl,rfl⟩
 obtain⟨v,hv⟩:=zM6 c hi;exact⟨Be s2.loc 6 (.int i),rfl,Al (Nt (Dv (A5 (A5 (A5 (A5 (Ab (A7 (i:=4) h.2.1) rfl (hv _)) rfl) zBS) rfl) rfl) rfl (B8 (t:=v !=v) (Ab (A7 (i:=4) h.2.1) rfl (hv _)) (Ab (A7 (i:=5) h.2.2) rfl (hv _)) rfl rfl)) (bne_self_eq_false _) (Aa rfl (Aa rfl h)))⟩
end
section
open Builtin.Str
noncomputable def zKu:Mn Fl:=(Ag (Af (Ad H2 (Ad Aj (A6 6) (Ad B0 (Ad Aj (A6 9) (A8 (.int 0))) (Ad Aj (A6 9) (A8 (.int 2))))) (Ad Aj (A6 6) (Ad Aj (A6 9) (A8 (.int 0))))) (Ah 10))
 (Ag (Af (Af (A6 8) (Dh λk=>Af (D6 (A9 (Ad Aj (A6 6) (Ad Aj (A6 9) (A8 (.int 0)))) (A9 (Ad Aj (A6 7) (Ad Aj (A6 9) (A8 (.int 1)))) (A9 (A6 10) (A9 (Ad H2 (Ad Aj (A6 7) (Ad B0 (Ad Aj (A6 9) (A8 (.int 1))) (Ad Aj (A6 9) (A8 (.int 3))))) (Ad Aj (A6 7) (Ad Aj (A6 9) (A8 (.int 1))))) (A9 (Ad Aj (A6 9) (A8 (.int 4))) Ai)))))) (Bt k))) Ct)
 (A8 .next)))
noncomputable def T6:Mn Fl:=(Ag (Af (Af (A9 (A6 0) (A9 (A6 1) (A9 (A6 2) (A9 (A6 3) Ai)))) Ga) (Ah 4))
 (Ag (Af (Af (A9 (D6 (A9 (A6 1) (A9 (A6 2) (A9 (Af (A9 (A6 4) Ai) Mm) Ai)))) Ai) Hb) (Ah 5))
 (Ag (Af (Af (A9 (A6 4) (A9 (A6 1) (A9 (A8 (.int 0)) Ai))) Cg) (Ah 6))
 (Ag (Af (Af (A9 (A6 4) (A9 (A6 2) (A9 (A8 (.int 1)) Ai))) Cg) (Ah 7))
 (Ag (Af (Cs Ai) (Ah 8))
 (Ag (Af (Af (A6 4) Bq) λsrc=>By (As 9) src.g zKu src.ds)
 (Ag (Af (Af (A9 (A6 5) Ai) Jo) (Ah 11))
 (Ag (Ex (Hp (Af (Af (A9 (A6 11) (A9 (Ad Aj (A6 6) (A6 1)) (A9 (Ad Aj (A6 7) (A6 2)) (A9 (A6 8) Ai)))) K6) B5)) (Ag (Ca (A8 (.bool false)))
 (A8 .next)) (A8 .next))
 (Ag (Ca (L8 (Af (A6 5) (Hl "str")) (Ad F2 (Af (A9 (A6 11) Ai) Hb) (A6 5))))
 (A8 .next))))))))))
structure LL (R C kc ky kx kd:Nat)(x:Str)(l:Bm):Prop where
 l1:l 1=some (.int (R:Int))
 l2:l 2=some (.int (C:Int))
 l4:l 4=some (.ref kc)
 l5:l 5=some (.str x)
 l6:l 6=some (.ref ky)
 l7:l 7=some (.ref kx)
 l8:l 8=some (.ref kd)
structure zOP (R C kc ky kx kd:Nat)(x:Str)(σ:C3)(ds:List Cn)(st:St):Prop where
 ll:LL R C kc ky kx kd x st.loc
 ext:Cq σ st.sto
 lst:st.sto[kd]? =some (.list (ds.map Ce))
theorem zKF(hR:R<=60)(hC:C<=60)(g:(c.t<c.b/\c.b<=R)/\c.l<c.r/\c.r<=C)(gy:σ0[ky]? =some (.list (L6 (Av false cs) R)))(gx:σ0[kx]? =some (.list (L6 (Av true cs) C)))(hx:Cq σ0 σ)(hkd:σ0.length<=kd)(hk:σ[kd]? =some (.list (dn.map Ce)))(hl:dn.length<=400)(L:LL R C kc ky kx kd x loc)(l9:loc 9=some (Ce c)):
  W zKu ⟨loc,σ⟩ λfl st'=>fl=.next/\zOP R C kc ky kx kd x σ0 (dn++[c.mv (kq (Av false cs) 0) (kq (Av true cs) 0)]) st':=by
 have hsl:(1000:Nat)<=sizeLine:=by decide
 have iy:=hx.get gy;have ix:=hx.get gx;have y1:∀{l:Bm}{i:Int}{a:Nat},i=a->a<=R->Aj (.ref ky) (.int i) ⟨l,σ⟩=.ok (.int (kq (Av false cs) 0 a)) ⟨l,σ⟩:=λe h=>Fh iy e h (by exact lk hR rfl)
 have x1:∀{l:Bm}{i:Int}{a:Nat},i=a->a<=C->Aj (.ref kx) (.int i) ⟨l,σ⟩=.ok (.int (kq (Av true cs) 0 a)) ⟨l,σ⟩:=λe h=>Fh ix e h (by exact lk hC rfl)
 unfold zKu;refine Ax (run_set (Ab (Ab (A7 L.l6) (Ab (Ab (A7 l9) rfl rfl) (Ab (A7 l9) rfl rfl) rfl) (y1 (a:=c.b) (by lia) (by lia))) (Ab (A7 L.l6) (Ab (A7 l9) rfl rfl) (y1 (a:=c.t) rfl (by lia))) rfl)) ?_
 refine Ax (Er (v:=Ce (c.mv (kq (Av false cs) 0) (kq (Av true cs) 0))) (A7 (i:=8) L.l8) hk (by rw[lq6];lia) (Kj (ds:=[_,_,_,_,_]) (A5 (Ab (A7 (i:=6) L.l6) (Ab (A7 (i:=9) l9) rfl rfl) (y1 (a:=c.t) rfl (by lia))) (A5 (A5 (Ab (A7 (i:=7) L.l7) (Ab (A7 (i:=9) l9) rfl rfl) (x1 (a:=c.l) rfl (by lia))) (A5 (A5 (A7 (i:=10) rfl) (A5 (A5 (Ab (Ab (A7 (i:=7) L.l7) (Ab (Ab (A7 (i:=9) l9) rfl rfl) (Ab (A7 (i:=9) l9) rfl rfl) rfl) (x1 (a:=c.r) (by lia) (by lia))) (Ab (A7 (i:=7) L.l7) (Ab (A7 (i:=9) l9) rfl rfl) (x1 (a:=c.l) rfl (by lia))) rfl) (A5 (A5 (Ab (A7 (i:=9) l9) rfl rfl) rfl) rfl)) rfl)) rfl)) rfl)) (by decide:5<=sizeLine))) (Aa rfl ⟨rfl,⟨L.l1,L.l2,L.l4,L.l5,L.l6,L.l7,L.l8⟩,hx.set hkd,?_⟩)
 show(σ.set kd _)[kd]? =_
 rw[Im hk,lJ5];rfl
theorem zJ6{N kt:Nat}{cs:List Cn}{st:St}{Q:D->St->Prop}(hN:N<=60)(hl:cs.length<=400)(hb:Av false cs 0=true)(hk:st.sto[kt]? =some (.list (cs.map Ce)))
  (hQ:∀k σ',Cq st.sto σ'->σ'[k]? =some (.list (L6 (Av false cs) N))->Q (.ref k) ⟨st.loc,σ'⟩):W (Cg [.ref kt,.int (N:Int),.int 0]) st Q:=R9 (w:=false) hN hl hb hk hQ
theorem zKn{N kt:Nat}{cs:List Cn}{st:St}{Q:D->St->Prop}(hN:N<=60)(hl:cs.length<=400)(hb:Av true cs 0=true)(hk:st.sto[kt]? =some (.list (cs.map Ce)))
  (hQ:∀k σ',Cq st.sto σ'->σ'[k]? =some (.list (L6 (Av true cs) N))->Q (.ref k) ⟨st.loc,σ'⟩):W (Cg [.ref kt,.int (N:Int),.int 1]) st Q:=R9 (w:=true) hN hl hb hk hQ
theorem zFY{R C:Nat}{ns:List Int}{gr:Bool}{σ:C3}{loc:Bm}(hn:ns.length<=63)(hR:1<=R/\R<=20)(hC:1<=C/\C<=20)(h0:Dr σ)(l0:loc 0=some (.scr ns))(l1:loc 1=some (.int (R:Int)))(l2:loc 2=some (.int (C:Int)))(l3:loc 3=some (.bool gr)):
  W T6 ⟨loc,σ⟩ λfl st'=>fl=.ret (.bool true)/\Dr st'.sto:=by
 have hsl:(1000:Nat)<=sizeLine:=by decide
 unfold T6;refine Al (Wb (Wb (Aa (A5 (A7 l0) (A5 (A5 (A7 l1) (A5 (A5 (A7 l2) (A5 (A5 (A7 l3) rfl) rfl)) rfl)) rfl)) (zGI hn hR.1 hR.2 hC.1 hC.2 λcs kc σ1 ok x1 hc=>Aa rfl ?_))))
 have h01:=h0.ext x1;have hcl:=ok.len;have T:=ok.til;have good:∀c,c∈cs->(c.t<c.b/\c.b<=R)/\c.l<c.r/\c.r<=C:=λc m=>T.good c.bn (lM4.mpr ⟨c,m,rfl⟩)
 have okc:=Si T ok.tx hcl hR.1 hC.1 hR.2 hC.2;refine Al (Wb (Wb (Wb (zJ4 (Aa (a:=[.int (R:Int),.int (C:Int),.ref σ1.length]) (st1:=⟨Be loc 4 (.ref kc),σ1++[.list (cs.map Ce)]⟩) (A5 (A7 (i:=1) l1) (A5 (A5 (A7 (i:=2) l2) (A5 (A5 (A5 (A5 (A7 (i:=4) rfl) rfl) (Bg (zDx hc (by rw[lq6];lia) ⟨rfl,rfl⟩))) rfl) rfl)) rfl)) ⟨by show 3<=_;lia,Aa rfl ?_⟩)))))
 have hc2:(σ1++[PO.list (cs.map Ce)])[kc]? =some (.list (cs.map Ce)):=(Cq.app _ _).get hc
 have hd2:(σ1++[PO.list (cs.map Ce)])[σ1.length]? =some (.list (cs.map Ce)):=lq3
 have h02:=h01.ext (.app σ1 [PO.list (cs.map Ce)]);generalize σ1++[PO.list (cs.map Ce)]=σ2 at hc2 hd2 h02
 refine Zn h02 okc ⟨hR.2,hC.2⟩ (λc m=>⟨(good c m).1.1,(good c m).2.1⟩) (λc m=>by have:=(ok.tx c m).len;exact lk this rfl) hd2 λFy Fx x σ3 g hx h03 k3=>Aa rfl ?_
 have hc3:=k3.2 _ _ hc2;refine Al (Wb (Wb (Aa (A5 (A7 (i:=4) (d:=.ref kc) rfl) (A5 (A5 (A7 (i:=1) l1) rfl) rfl)) (zJ6 (lM7 hR.2 (by decide)) hcl (T.zero hR.1 hC.1 false) hc3 λky σ4 x4 hy=>Aa rfl ?_))))
 refine Al (Wb (Wb (Aa (A5 (A7 (i:=4) (d:=.ref kc) rfl) (A5 (A5 (A7 (i:=2) l2) rfl) rfl)) (zKn (lM7 hC.2 (by decide)) hcl (T.zero hR.1 hC.1 true) (x4.get hc3) λkx σ5 x5 hx5=>Aa rfl ?_))))
 have hc5:=x5.get (x4.get hc3);have hy5:=x5.get hy;have h05:=h03.ext (x4.trans x5);refine Ax (run_set (Hz rfl (by show 0<=_;exact zN9 hsl rfl))) ?_
 refine Al (Wb (Aa (A5 (A7 (i:=4) rfl) (Cv ((Cq.app _ _).get hc5))) ?_))
 refine E2 (λdn st'=>zOP R C kc ky kx σ5.length x σ5 (dn.map (Cn.mv (kq (Av false cs) 0) (kq (Av true cs) 0))) st') (λ_ _ J=>J.ext.get hc5) (λdn c rest st' he J=>?_) (λst6 J=>?_) ⟨⟨l1,l2,rfl,rfl,rfl,rfl,rfl⟩,.app _ _,lq3⟩
 ·have mc:c∈cs:=by rw[he];exact lC6 _ lq1
  have hlen:=lO2 List.length he;simp only[lq7,lI0]at hlen;have L:=J.ll;refine⟨Be st'.loc 9 (Ce c),rfl,(zKF (loc:=Be st'.loc 9 (Ce c)) (cs:=cs) (by lia) (by lia) (good c mc) hy5 hx5 J.ext (lN4 _) J.lst (by rw[lq6];lia) ⟨L.l1,L.l2,L.l4,L.l5,L.l6,L.l7,L.l8⟩ rfl).mono λfl st7 h=>?_⟩
  obtain⟨rfl,h⟩:=h;show zOP _ _ _ _ _ _ _ _ _ st7
  rw[lJ5];exact h
 ·obtain⟨L,x6,hk6⟩:=J;have T':=T.tight hR.1 hC.1;have tg:=T.tgt hR.1 hC.1;have r1:1<=kq (Av false cs) 0 R:=zAO hR.1
  have c1:1<=kq (Av true cs) 0 C:=zAO hC.1
  have tx':∀c,c∈Dn cs->X4 c.x:=Jz λc m=>ok.tx c m
  have hl':(Dn cs).length<=400:=by unfold Dn;rw[lq6];exact hcl
  refine Al (Wb (Wb (Aa (A5 (A7 L.l5) rfl) (Bu rfl (Al (Al (Wb (Wb (Aa rfl (zLb g T' tg tx' hl' r1 c1 hx (h05.ext x6) λk σ7 h07 k7 hk7=>Aa rfl (Aa rfl ?_)))))))))))
  have hd7:=k7.2 _ _ hk6;have hy7:=k7.2 _ _ (x6.get hy5);have hx7:=k7.2 _ _ (x6.get hx5);refine Al (zKS (Wb (Wb (Wb (Aa (a:=[.tup [.int (kq (Av false cs) 0 R:Int),.int (kq (Av true cs) 0 C:Int),.ref k],.int (kq (Av false cs) 0 R:Int),.int (kq (Av true cs) 0 C:Int),.ref σ5.length]) (A5 rfl (A5 (A5 (Ab (A7 (i:=6) L.l6) (A7 (i:=1) L.l1) (Fh hy7 rfl (lN4 _) (by exact lk hR.2 rfl))) (A5 (A5 (Ab (A7 (i:=7) L.l7) (A7 (i:=2) L.l2) (Fh hx7 rfl (lN4 _) (by exact lk hC.2 rfl))) (A5 (A5 (A7 (i:=8) L.l8) rfl) rfl)) rfl)) rfl)) (zOO hl' hk7 hd7 λj8=>Aa rfl (Aa rfl (Aa rfl ?_))))))))
  refine Al (Wb (zDM (Aa (a:=.bool true) (A5 (A7 (i:=5) L.l5) rfl) (Aa (a:=true) rfl ?_))))
  rw[lO6 rfl];refine Mg (Wb (Aa (A5 rfl rfl) (zAh g T' tg tx' hl' r1 c1 hx (h07.ext (.app _ j8)) ((Cq.app _ j8).get hk7) λσ9 h09 k9=>Aa (A7 (i:=5) L.l5) (zB3 ?_))))
  rw[beq_self_eq_true];exact Aa rfl ⟨rfl,h09⟩
theorem zKQ(ns:List Int)(hn:ns.length<=63):∃σ' k,zET [.scr ns] ⟨Br,[.ctab Kk 53 29 qL none]⟩=.ok (.bool true) ⟨Br,σ'⟩/\σ'[0]? =some (.ctab Kk 53 29 qL k):=by
 suffices h:W (zET [.scr ns]) ⟨Br,[.ctab Kk 53 29 qL none]⟩ (λd st'=>d=.bool true/\st'.loc=Br/\Dr st'.sto)by
  obtain⟨d,⟨l,σ'⟩,e,rfl,hl,k,e2,_⟩:=h
  cases hl;exact⟨σ',k,e,e2⟩
 have h0:Dr [.ctab Kk 53 29 qL none]:=⟨none,rfl,λm q=>by cases q⟩
 refine Bu rfl ?_
 refine Al (Wb (Wb (Wb (Wb (Aa rfl (zKm (by decide) (by decide) (by exact zAm hn rfl) (Aa rfl (zFm λR hR hR2=>Aa rfl ?_))))))))
 refine Al (Wb (Wb (Wb (Wb (Aa rfl (zKm (by decide) (by decide) (by exact zAm hn rfl) (Aa rfl (zFm λC hC hC2=>Aa rfl ?_))))))))
 generalize hv:ns.getD (2:Int).toNat 0=v
 have at2:∀S:St,S.loc 0=some (.scr ns)->Af (A9 (A6 0) (A9 (A8 (.int 2)) Ai)) Ef S=.ok (.int v) S:=λS h=>A5 (A5 (A7 h) rfl) (Bg (zKm (by decide) (by decide) (by exact zAm hn rfl) ⟨by rw[hv],rfl⟩))
 have e8:v.fmod 8=v % 8:=Int.fmod_eq_emod_of_nonneg v (by decide)
 have e64:v.fmod 64=v % 64:=Int.fmod_eq_emod_of_nonneg v (by decide)
 refine Ax (run_set (Ab (Ab (at2 _ rfl) rfl (Ij (by decide))) rfl rfl)) ?_
 have fin:∀(R C:Int) (g:Bool) (loc:Bm),1<=R->R<=20->1<=C->C<=20->(g=true->R<=9/\C<=9)->g=(v.fmod 8==5)->loc 0=some (.scr ns)->loc 1=some (.int R)->loc 2=some (.int C)->loc 3=some (.bool g)->
   W (Ag (Ex (C1 F2 (Ad E1 (Af (A9 (A6 0) (A9 (A8 (.int 2)) Ai)) Ef) (A8 (.int 64))) (A8 (.int 13))) (Ag (Af (Ad B0 (A6 1) (A8 (.int 5))) (Ah 1)) (Ag (Af (Ad B0 (A6 2) (A8 (.int 5))) (Ah 2)) (A8 .next))) (A8 .next)) T6) ⟨loc,[.ctab Kk 53 29 qL none]⟩ λfl st'=>fl=.ret (.bool true)/\Dr st'.sto:=λR C g loc r1 r2 c1 c2 hg eg l0 l1 l2 l3=>by
  refine Da (b:=v.fmod 64==13) (B8 (Ab (at2 _ l0) rfl (Ij (by decide))) rfl rfl rfl) (λz=>?_) λz=>?_
  ·have z:v.fmod 64=13:=lN8.mp z
   have hg:=hg (by rw[eg,lN8];lia)
   obtain⟨R,rfl⟩:∃r:Nat,R=r:=⟨R.toNat,by exact Kl (λZ=>Az [_,_] [Ae x0 x1,eq1 x1 x0] rT Z (D5 (zDI r1 rfl))) (λZ=>Az [_,_] [Ae x1 x0,Ac x0 x1] rT Z (Hy _))⟩
   obtain⟨C,rfl⟩:∃c:Nat,C=c:=⟨C.toNat,by exact Kl (λZ=>Az [_,_] [Ae x0 x1,eq1 x1 x0] rT Z (D5 (zDI c1 rfl))) (λZ=>Az [_,_] [Ae x1 x0,Ac x0 x1] rT Z (Hy _))⟩
   exact Ax (run_set (Ab (A7 l1) rfl rfl)) (Ax (run_set (Ab (A7 (i:=2) l2) rfl rfl)) (Aa rfl (zFY (R:=R+5) (C:=C+5) hn (by lia) (by lia) h0 l0 rfl rfl l3)))
  ·obtain⟨R,rfl⟩:∃r:Nat,R=r:=⟨R.toNat,by exact Kl (λZ=>Az [_,_] [Ae x0 x1,eq1 x1 x0] rT Z (D5 (zDI r1 rfl))) (λZ=>Az [_,_] [Ae x1 x0,Ac x0 x1] rT Z (Hy _))⟩
   obtain⟨C,rfl⟩:∃c:Nat,C=c:=⟨C.toNat,by exact Kl (λZ=>Az [_,_] [Ae x0 x1,eq1 x1 x0] rT Z (D5 (zDI c1 rfl))) (λZ=>Az [_,_] [Ae x1 x0,Ac x0 x1] rT Z (Hy _))⟩
   exact Aa rfl (zFY (R:=R) (C:=C) hn (by exact⟨G9 (r1),G9 (r2)⟩) (by exact⟨G9 (c1),G9 (c2)⟩) h0 l0 l1 l2 l3)
 have post:∀{m:Mn Fl}{st:St},W m st (λfl st'=>fl=.ret (.bool true)/\Dr st'.sto)->W m st λfl st'=>zFg fl=.bool true/\(⟨Br,st'.sto⟩:St).loc=Br/\Dr (⟨Br,st'.sto⟩:St).sto:=λh=>h.mono λfl st' q=>by
  obtain⟨rfl,t⟩:=q;exact⟨rfl,rfl,t⟩
 refine post ?_
 have m1:=C6 (a:=R) (b:=4) (by decide);have m2:=C6 (a:=C) (b:=4) (by decide);refine Da (b:=v.fmod 8==5) rfl (λz=>?_) λz=>?_
 ·exact Ax (run_set (Ab rfl (Ab rfl rfl (Ij (by decide))) rfl)) (Ax (run_set (Ab rfl (Ab rfl rfl (Ij (by decide))) rfl)) (Aa rfl (fin (6+R.fmod 4) (6+C.fmod 4) (v.fmod 8==5) _ (by exact H6 (Ac (.n 1) (.a (.n 6) x0)) [Ac (.n 0) x0] rT m1.1) (by exact H6 (Ac (.a (.n 6) x0) (.n 20)) [Ae x0 (.n 4)] rT m1.2) (by exact H6 (Ac (.n 1) (.a (.n 6) x0)) [Ac (.n 0) x0] rT m2.1) (by exact H6 (Ac (.a (.n 6) x0) (.n 20)) [Ae x0 (.n 4)] rT m2.2) (λ_=>by exact⟨H6 (Ac (.a (.n 6) x0) (.n 9)) [Ae x0 (.n 4)] rT m1.2,H6 (Ac (.a (.n 6) x0) (.n 9)) [Ae x0 (.n 4)] rT m2.2⟩) rfl rfl rfl rfl rfl)))
 ·exact Aa rfl (fin R C (v.fmod 8==5) _ hR hR2 hC hC2 (λq=>by rw[q]at z;cases z) rfl rfl rfl rfl rfl)
end
section
open W
theorem zPJ:PySem.Challenge.rw_uf030034_11.Holds:=hd (by
 intro w s₀ s₁ mg mb G Y fa o pm cd doc dV kV ho hd hcd hD hmg hg args vals as hpre hlay hrd hwl hlo;have KX:=kIn_of Y;refine Ground.open G ?_
 intro T B D TE TW;wrow_args hpre hlay hrd hwl hlo
 have hs:((recsOf (view pw Ju)).find? λe=>e.name==sO "in_order").isSome=true:=by kernel_rfl
 obtain⟨dr,hr⟩:=lB1.mp hs;have hT:TabsAt [(148,144)] s₁.heap:=λq m=>by rw[lq0 m];exact tab_of T KX hr (by kernel_rfl)
 have L:zDu ⟨pw,w,ghostOf s₁.heap [(148,144)],s₁.os,s₁.gens⟩ (hK w.params) 148 144:=⟨⟨ghost_K hT KX (by kernel_rfl),⟨mg,ghost_ns hT T.g⟩,⟨mb,ghost_ns hT T.b,T.builtins⟩,(ghost_top hT T).nolimit⟩,zHw hT T⟩
 have hm:mg (sO "law")=some (.ref 341):=mg_of KX T.g (by kernel_rfl)
 have hn:((defOf (view pw Ju) PySem.Challenge.rw_uf030034_11.name).get hX).1.name=sO "law":=by kernel_rfl
 exact zAy hT (zKi L) (by decide) (by rw[hn,hm]at hmg;cases hmg;rfl) (by assumption) (by assumption) hg (λ_=>rfl) (by kernel_rfl) (zKQ _ (by omega)))
end
end Mine.Internal
set_option maxRecDepth 100000 in
set_option maxHeartbeats 8000000 in
theorem PySem.Challenge.cw_uf030034_11_holds : PySem.Challenge.rw_uf030034_11.Holds := by
  exact Mine.Internal.zPJ
