import PyProof.Rows.All
import PyProof.Cells
import PyProof.ForAny
import PyProof.RaisesMany
import PyProof.NsDelKeeps
import PyProof.ExcClass3
import PyProof.ExcArgsOwn
import PyProof.ExcAttrAll.ValueError
import PyProof.DictDisplay
import PyProof.DictStraight
import PyProof.Rows.SetFrom
import OpenK.KWalk
import Open.Tree
import KE.KTryMore
import KE.KDictOf
import KE.KEqDict
import KE.KIntText
import PyProof.StrLawsChain
import PyProof.StrLawsLast
import PyProof.StrReplace2
import PyProof.Rows.StrNews2
import PyProof.SliceStr2
import PyProof.CallStr
import PyProof.Rows.ReprOcc
import PyProof.AttrMissSeq
import PyProof.ZipIter
import PyProof.TupleIter
import PyProof.Rows.ZipGen
import PyProof.Rows.FactsT2
import Wide.FinOn
import PySem.Challenge.RW_uf010005_12
set_option maxRecDepth 100000
set_option linter.unusedVariables false
set_option linter.unusedSimpArgs false
set_option linter.unusedSectionVars false
set_option Elab.async false
set_option tactic.hygienic false
set_option genSizeOf false
set_option genInjectivity false
set_option genCtorIdx false
set_option bootstrap.genMatcherCode false
open List (append_nil append_assoc all_cons all_eq_true map_cons map_map map_nil replicate take_of_length_le range' forIn_cons filter_cons mem_filter take_zero length_pos_iff length mem_of_mem_take mem_cons mem_append mem_map not_mem_nil find?_cons any_cons append_toArray flatten_cons contains_iff_mem mapIdx mem_range cons_append count_cons nodup_cons zipIdx_cons length_nil take_sublist getElem_mem pairwise_map Pairwise take_left takeWhile_cons drop map_id' getLast?_concat dropLast_concat count_cons_of_ne take drop_sublist map_drop Sublist)
open Nat (lt_irrefl not_lt_zero lt_of_succ_lt_succ succ_le_succ ne_of_lt lt_succ_self ne_of_gt log2_lt sub_le le_max_left le_max_right lt_of_le_of_lt mod_lt pow_succ digitChar)
open Array (length_toList toList_extract toList_inj toList_append all_toList toList)
open Option (map_eq_some_iff map_some elim isSome_iff_exists)
open PySem.PyData (eqv str canLayAll0 canLay0 depth depthAll int list tuple dict eqvAll)
open PySem.Value (type builtin)
open Bool (and_eq_true_iff false_eq_true eq_false_iff noConfusion not_eq_true or_eq_false_iff)
open Int (mul_add zero_mul natCast_add mul_nonneg ofNat_le reduceNeg)
open PySem.Calls (docDef)
variable {α β ε:Type} {a C:PySem.Addr} {e g cb value ea eb iter:PySem.Expr} {f i n tk j kk:Nat} {k nm:PySem.Str} {m:PySem.Str->Option PySem.Value} {body:List PySem.Stmt} {cw pin:List Nat} {h h' h₀:PySem.Heap} {vs:List PySem.Value} {es:List PySem.Expr} {Z Z' fs:PySem.Addr->Prop} {b':Bool} {vl vu V:PySem.Value} {s':PySem.Shared} {env:PySem.Env} {pos aN p' ap:PySem.Pos} {af:PySem.Addr->Option Nat} {mr:PySem.Sem PySem.Value} {E:PySem.Value->PySem.Shared->Prop} {yes:List PySem.Str} {A:PySem.Around} {scope:PySem.Scope}
section
open PySem PySem.W
namespace Ht
section
variable {tb:String->Option Builtin} {p:Program} {w:World} {uZ:Nat} {Gx:Option Value}
noncomputable def AJ (tb:String->Option Builtin) (p:Program) (w:World) (uZ:Nat) (Gx:Option Value):Nat->SharedT->Thread->Option SharedT
 |0,_,_=>none
 |n+1,s,t=>match through t with
  |true=>some s
  |false=>match stepOk uZ Gx t with
   |false=>none
   |true=>match stepT (denote tb) p w s t with
    |some (s',t')=>AJ tb p w uZ Gx n s' t'
    |none=>none
theorem wU:∀ {n:Nat} {s s':SharedT} {t:Thread},AJ tb p w uZ Gx n s t=some s'->topRun tb p w uZ Gx n s.abs t=some s'.abs
 |0,_,_,_,h=>by cases h
 |n+1,s,s',t,h=>by
  unfold AJ at h;unfold topRun;cases he:through t with
  |true=>rw[he]at h;cases h;rfl
  |false=>
   rw[he]at h;cases hk:stepOk uZ Gx t with
   |false=>rw[hk]at h;cases h
   |true=>
    rw[hk]at h;cases hs:stepT (denote tb) p w s t with
    |none=>rw[hs]at h;cases h
    |some r=>obtain⟨aA,NB⟩:=r;rw[hs]at h;rw[stepT_spec hs];exact wU h
noncomputable def load:List Obj->BT->Nat->Option BT
 |[],t,_=>some t
 |o::r,t,n=>match ((t.ins n o).get n).isSome with
  |true=>load r (t.ins n o) (n+1)
  |false=>none
theorem tE {life:Life}:∀ {l:List Obj} {t t':BT} {n:Nat},load l t n=some t'->absHeap t' (n+l.length) life=⟨((absHeap t n life).objs.toList++l).toArray,life⟩
 |[],t,t',n,h=>by cases h;rw[append_nil];rfl
 |o::r,t,t',n,h=>by
  unfold load at h;cases hg:((t.ins n o).get n).isSome with
  |false=>rw[hg]at h;cases h
  |true=>
   rw[hg]at h;have:=tE (life:=life) h;rw[absHeap_ins hg]at this;rw[show n+(o::r).length=n+1+r.length by simp[Nat.add_comm,Nat.add_left_comm],this]
   congr 1
   show(((absHeap t n life).objs.push o).toList++r).toArray=_
   rw[Array.toList_push,append_assoc];rfl
noncomputable def zc (tb:String->Option Builtin) (p:Program) (w:World) (N:Nat):Option Shared:=
 match fencedOpening tb p w N with
 |none=>none
 |some s₀=>match s₀.heap.isNs mainGlobals&&s₀.gens.size==0 with
  |false=>none
  |true=>match load s₀.heap.objs.toList .nil 0 with
   |none=>none
   | some t₀=>match AJ tb p w s₀.heap.objs.size (s₀.heap.nsMap mainGlobals "__annotations__") N ⟨t₀,0 + s₀.heap.objs.toList.length,s₀.heap.life,s₀.gens,s₀.drawn,s₀.toks,s₀.os⟩ (topStub p) with
    |none=>none
    |some s=>match staticsOk (importedModules p.main.body) s₀.heap s.abs.heap&&namesBound p s.abs.heap&&gensDone s.abs&&laidKept s₀.heap s.abs.heap with
     |true=>some s.abs
     |false=>none
set_option tactic.hygienic true in
theorem BO {N:Nat} {s₁:Shared} (h:zc tb p w N=some s₁):openEnds tb p w N=some s₁:=by
 unfold zc at h;unfold openEnds;cases hf:fencedOpening tb p w N with
 |none=>rw[hf]at h;cases h
 |some s₀=>
  rw[hf]at h;show topFrom tb p w N s₀=some s₁
  unfold topFrom;dsimp only at h;cases hc:s₀.heap.isNs mainGlobals&&s₀.gens.size==0 with
  |false=>rw[hc]at h;cases h
  |true=>
   rw[hc]at h;dsimp only at h ⊢;cases hl:load s₀.heap.objs.toList .nil 0 with
   |none=>rw[hl]at h;cases h
   |some t₀=>
    rw[hl]at h;dsimp only at h
    split at h
    .cases h
    .rename_i s hr
     have hr:=wU hr;have e:SharedT.abs ⟨t₀,0+s₀.heap.objs.toList.length,s₀.heap.life,s₀.gens,s₀.drawn,s₀.toks,s₀.os⟩=s₀:=by
      unfold SharedT.abs;dsimp only;rw[tE hl]
      rfl
     rw[e]at hr;rw[hr];exact h
end
theorem leftT {p q:Program} {loose:List Str} {Xt:Shared->Bool} {α:Type} {Yf:Shared->α} {Ya:World->α} {N:Nat} {g0:Bool}
  (h:∀w,(zc treeTable p w N).map (λs=>(openSeen q loose (importedModules p.main.body) Xt g0 s,Yf s))=some (openGood q loose,Ya w)):LeftO p q loose Xt Yf Ya N g0:=λw=>by
 obtain⟨s,e,e'⟩:=map_eq_some_iff.mp (h w);rw[BO e];exact congrArg some e'
end Ht
end
section
open PySem PySem.W PyProof.Rows
set_option maxHeartbeats 8000000
namespace Hq
abbrev row:=PySem.Challenge.rw_uf010005_12.row
abbrev p:Program:=RowW.prog (OpenRow.toRowW row)
noncomputable def view:Program:= {p with main:= {p.main with body:=[1,2,3,4,5,6,7,8,9,10,12,13,14,15,17,18,19,20,21,22,24,25,26,27,28,29,30,31,32,33,34,36,37,38,39,40,41,42,43,44,45,46,47,49,50,51,52,53,54,55,56,57,58,59,60,61,62,63,64,65,66,67,68,69].filterMap λi=>p.main.body[i]?}}
noncomputable def loose:List Str:=[Str.ofString "GREAT"]
noncomputable def lv:List (Str × WData):=[(Str.ofString "GREAT",WData.int 1000000000000000000)]
noncomputable def kS (s:String) (a:Nat):Value:=.str (Str.ofString s) a
noncomputable def kE (P:Params) (s:String) (a:Nat) (v:Value):DictEntry:= {hash:=PyData.keyHash P (Str.ofString s),key:=kS s a,val:=v}
noncomputable def K:Params->Frag:=λP=>[
(3, {cls:=type "dict",data:=Data.dict #[kE P "__name__" 165 (kS "law_uf010005_12" 576),kE P "__doc__" 166 Value.none,kE P "__package__" 167 Value.none,kE P "__loader__" 168 (builtin "__main__.__loader__#opaque"),kE P "__spec__" 169 Value.none,kE P "__annotations__" 170 (.ref 6),kE P "__builtins__" 171 (.ref 4),kE P "__file__" 173 (kS "/claim/cut.py" 172),kE P "__cached__" 174 Value.none,kE P "HalfError" 206 (.ref 24),kE P "NoNumber" 222 (.ref 37),kE P "NoList" 238 (.ref 49),kE P "NoFirst" 254 (.ref 61),kE P "NoDown" 270 (.ref 73),kE P "ByNought" 286 (.ref 85),kE P "TooGreat" 302 (.ref 97),kE P "TooLong" 318 (.ref 109),kE P "NotKept" 334 (.ref 121),kE P "NoText" 350 (.ref 133),kE P "GREAT" 356 (Value.int 1000000000000000000 355),kE P "HEAVIEST" 358 (Value.int 50 357),kE P "room_left" 369 (.ref 142),kE P "is_value" 376 (.ref 149),kE P "WORDS" 385 (.ref 150),kE P "PAIRS" 393 (.ref 151),kE P "SINGLES" 398 (.ref 152),kE P "MOST_LISTED" 400 (Value.int 8 399),kE P "is_operation" 407 (.ref 159),kE P "takes" 415 (.ref 166),kE P "LETTERS" 419 (kS "abcdefghijklmnopqrstuvwxyz" 418),kE P "FIGURES" 421 (kS "0123456789" 420),kE P "LONGEST" 423 (Value.int 8 422),kE P "DEEPEST" 425 (Value.int 20 424),kE P "MOST_PARAMETERS" 427 (Value.int 6 426),kE P "is_name" 433 (.ref 171),kE P "are_names" 439 (.ref 176),kE P "is_told" 447 (.ref 183),kE P "parts_of" 458 (.ref 190),kE P "is_body" 464 (.ref 195),kE P "is_good" 470 (.ref 200),kE P "MOST_FIGURES" 474 (Value.int 18 473),kE P "value_text" 480 (.ref 205),kE P "text_of" 486 (.ref 210),kE P "shown" 497 (.ref 217),kE P "word_at" 506 (.ref 224),kE P "number_of" 512 (.ref 229),kE P "value_at" 524 (.ref 236),kE P "built" 532 (.ref 243),kE P "plain_at" 542 (.ref 250),kE P "expression_at" 556 (.ref 257),kE P "function_of" 569 (.ref 264),kE P "read" 575 (.ref 269),kE P "_law_cell_at" 585 (.ref 276),kE P "_law_next" 593 (.ref 283),kE P "_law_value" 599 (.ref 288),kE P "_law_names" 605 (.ref 293),kE P "_law_few" 614 (.ref 300),kE P "_law_tame" 627 (.ref 307),kE P "_law_parts" 641 (.ref 314),kE P "_law_call" 656 (.ref 321),kE P "_law_do" 669 (.ref 328),kE P "_law_form" 682 (.ref 335),kE P "_law_heads" 688 (.ref 340),kE P "_law_program" 694 (.ref 345),kE P "_law_inputs" 705 (.ref 352),kE P "_law_sorting" 711 (.ref 357),kE P "_law_value_text" 717 (.ref 362),kE P "_law_text_of" 723 (.ref 367),kE P "_law_line" 730 (.ref 374),kE P "_law_text" 736 (.ref 379),kE P "_law_changed" 750 (.ref 386),kE P "_law_read" 759 (.ref 393),kE P "law" 770 (.ref 400)] 73}),
 (23, {cls:=type "dict",data:=Data.dict #[kE P "__module__" 196 (kS "halfrun.errors" 187),kE P "__firstlineno__" 200 (Value.int 2 199),kE P "__static_attributes__" 201 (.ref 22),kE P "__weakref__" 203 (.ref 25),kE P "__doc__" 204 Value.none] 3}),
 (24, {cls:=type "type",data:=Data.cls {name:=Str.ofString "HalfError",bases:=[type "ValueError"],mro:=[Value.ref 24,type "ValueError",type "Exception",type "BaseException",type "object"],ns:=23,qualname:=Str.ofString "HalfError",subclasses:=[Value.ref 37,Value.ref 49,Value.ref 61,Value.ref 73,Value.ref 85,Value.ref 97,Value.ref 109,Value.ref 121,Value.ref 133]},slots:=#[some (Value.ref 15),none,some (kS "HalfError" 189),some (kS "HalfError" 197),some (builtin "ValueError.__new__"),some (Value.bool true)]}),
 (36, {cls:=type "dict",data:=Data.dict #[kE P "__module__" 214 (kS "halfrun.errors" 187),kE P "__firstlineno__" 218 (Value.int 4 217),kE P "__static_attributes__" 219 (.ref 35),kE P "__doc__" 220 Value.none] 2}),
 (37, {cls:=type "type",data:=Data.cls {name:=Str.ofString "NoNumber",bases:=[Value.ref 24],mro:=[Value.ref 37,Value.ref 24,type "ValueError",type "Exception",type "BaseException",type "object"],ns:=36,qualname:=Str.ofString "NoNumber"},slots:=#[some (Value.ref 28),none,some (kS "NoNumber" 207),some (kS "NoNumber" 215),some (builtin "ValueError.__new__"),some (Value.bool true)]}),
 (48, {cls:=type "dict",data:=Data.dict #[kE P "__module__" 230 (kS "halfrun.errors" 187),kE P "__firstlineno__" 234 (Value.int 6 233),kE P "__static_attributes__" 235 (.ref 47),kE P "__doc__" 236 Value.none] 2}),
 (49, {cls:=type "type",data:=Data.cls {name:=Str.ofString "NoList",bases:=[Value.ref 24],mro:=[Value.ref 49,Value.ref 24,type "ValueError",type "Exception",type "BaseException",type "object"],ns:=48,qualname:=Str.ofString "NoList"},slots:=#[some (Value.ref 40),none,some (kS "NoList" 223),some (kS "NoList" 231),some (builtin "ValueError.__new__"),some (Value.bool true)]}),
 (60, {cls:=type "dict",data:=Data.dict #[kE P "__module__" 246 (kS "halfrun.errors" 187),kE P "__firstlineno__" 250 (Value.int 8 249),kE P "__static_attributes__" 251 (.ref 59),kE P "__doc__" 252 Value.none] 2}),
 (61, {cls:=type "type",data:=Data.cls {name:=Str.ofString "NoFirst",bases:=[Value.ref 24],mro:=[Value.ref 61,Value.ref 24,type "ValueError",type "Exception",type "BaseException",type "object"],ns:=60,qualname:=Str.ofString "NoFirst"},slots:=#[some (Value.ref 52),none,some (kS "NoFirst" 239),some (kS "NoFirst" 247),some (builtin "ValueError.__new__"),some (Value.bool true)]}),
 (72, {cls:=type "dict",data:=Data.dict #[kE P "__module__" 262 (kS "halfrun.errors" 187),kE P "__firstlineno__" 266 (Value.int 10 265),kE P "__static_attributes__" 267 (.ref 71),kE P "__doc__" 268 Value.none] 2}),
 (73, {cls:=type "type",data:=Data.cls {name:=Str.ofString "NoDown",bases:=[Value.ref 24],mro:=[Value.ref 73,Value.ref 24,type "ValueError",type "Exception",type "BaseException",type "object"],ns:=72,qualname:=Str.ofString "NoDown"},slots:=#[some (Value.ref 64),none,some (kS "NoDown" 255),some (kS "NoDown" 263),some (builtin "ValueError.__new__"),some (Value.bool true)]}),
 (84, {cls:=type "dict",data:=Data.dict #[kE P "__module__" 278 (kS "halfrun.errors" 187),kE P "__firstlineno__" 282 (Value.int 12 281),kE P "__static_attributes__" 283 (.ref 83),kE P "__doc__" 284 Value.none] 2}),
 (85, {cls:=type "type",data:=Data.cls {name:=Str.ofString "ByNought",bases:=[Value.ref 24],mro:=[Value.ref 85,Value.ref 24,type "ValueError",type "Exception",type "BaseException",type "object"],ns:=84,qualname:=Str.ofString "ByNought"},slots:=#[some (Value.ref 76),none,some (kS "ByNought" 271),some (kS "ByNought" 279),some (builtin "ValueError.__new__"),some (Value.bool true)]}),
 (96, {cls:=type "dict",data:=Data.dict #[kE P "__module__" 294 (kS "halfrun.errors" 187),kE P "__firstlineno__" 298 (Value.int 14 297),kE P "__static_attributes__" 299 (.ref 95),kE P "__doc__" 300 Value.none] 2}),
 (97, {cls:=type "type",data:=Data.cls {name:=Str.ofString "TooGreat",bases:=[Value.ref 24],mro:=[Value.ref 97,Value.ref 24,type "ValueError",type "Exception",type "BaseException",type "object"],ns:=96,qualname:=Str.ofString "TooGreat"},slots:=#[some (Value.ref 88),none,some (kS "TooGreat" 287),some (kS "TooGreat" 295),some (builtin "ValueError.__new__"),some (Value.bool true)]}),
 (108, {cls:=type "dict",data:=Data.dict #[kE P "__module__" 310 (kS "halfrun.errors" 187),kE P "__firstlineno__" 314 (Value.int 16 313),kE P "__static_attributes__" 315 (.ref 107),kE P "__doc__" 316 Value.none] 2}),
 (109, {cls:=type "type",data:=Data.cls {name:=Str.ofString "TooLong",bases:=[Value.ref 24],mro:=[Value.ref 109,Value.ref 24,type "ValueError",type "Exception",type "BaseException",type "object"],ns:=108,qualname:=Str.ofString "TooLong"},slots:=#[some (Value.ref 100),none,some (kS "TooLong" 303),some (kS "TooLong" 311),some (builtin "ValueError.__new__"),some (Value.bool true)]}),
 (120, {cls:=type "dict",data:=Data.dict #[kE P "__module__" 326 (kS "halfrun.errors" 187),kE P "__firstlineno__" 330 (Value.int 18 329),kE P "__static_attributes__" 331 (.ref 119),kE P "__doc__" 332 Value.none] 2}),
 (121, {cls:=type "type",data:=Data.cls {name:=Str.ofString "NotKept",bases:=[Value.ref 24],mro:=[Value.ref 121,Value.ref 24,type "ValueError",type "Exception",type "BaseException",type "object"],ns:=120,qualname:=Str.ofString "NotKept"},slots:=#[some (Value.ref 112),none,some (kS "NotKept" 319),some (kS "NotKept" 327),some (builtin "ValueError.__new__"),some (Value.bool true)]}),
 (132, {cls:=type "dict",data:=Data.dict #[kE P "__module__" 342 (kS "halfrun.errors" 187),kE P "__firstlineno__" 346 (Value.int 20 345),kE P "__static_attributes__" 347 (.ref 131),kE P "__doc__" 348 Value.none] 2}),
 (133, {cls:=type "type",data:=Data.cls {name:=Str.ofString "NoText",bases:=[Value.ref 24],mro:=[Value.ref 133,Value.ref 24,type "ValueError",type "Exception",type "BaseException",type "object"],ns:=132,qualname:=Str.ofString "NoText"},slots:=#[some (Value.ref 124),none,some (kS "NoText" 335),some (kS "NoText" 343),some (builtin "ValueError.__new__"),some (Value.bool true)]}),
 (150, {cls:=type "tuple",data:=Data.seq #[kS "NoNumber" 379,kS "NoList" 380,kS "NoFirst" 381,kS "NoDown" 382,kS "ByNought" 383,kS "TooGreat" 384]}),
 (151, {cls:=type "tuple",data:=Data.seq #[kS "plus" 386,kS "minus" 387,kS "times" 388,kS "over" 389,kS "less" 390,kS "same" 391,kS "join" 392]}),
 (152, {cls:=type "tuple",data:=Data.seq #[kS "down" 394,kS "first" 395,kS "rest" 396,kS "empty" 397]})]
noncomputable def JM:List Addr:=[3,23,24,36,37,48,49,60,61,72,73,84,85,96,97,108,109,120,121,132,133,150,151,152]
theorem K_eq:∀P,JM=(K P).map (·.1):=λac=>by kernel_rfl
noncomputable abbrev H:Hook:=kHook K JM K_eq
theorem left:LeftO p view loose (λs=>xlAt view lv s&&recOk (RowW.records (OpenRow.toRowW row)) s) (Hook.obs H) (Hook.val H) 20000:=Ht.leftT λw=>by kernel_rfl
theorem Kw:PySem.Challenge.rw_uf010005_12.wellSaid=true:=by kernel_rfl
theorem MP:(defOf view (OpenRow.toRowW row).name).isSome=true:=by kernel_rfl
noncomputable abbrev dk:DefRec×List (Str×Expr):=(defOf view (OpenRow.toRowW row).name).get MP
theorem Ly:defOf view row.name=some (dk.1,dk.2):=(Option.some_get MP).symm
theorem hp:row.prog.theDef row.name=some (dk.1.params,dk.1.body,dk.1.scope):=by kernel_rfl
theorem hk:kwWritten? dk.1.params.kwonlyargs dk.1.params.kw_defaults=some dk.2:=by kernel_rfl
theorem hok:(chainsOk view&&opensWell row.prog&&(frees row.toRowW&&row.within.isEmpty))=true:=by kernel_rfl
theorem II:row.prog.bare:=⟨rfl,rfl,rfl,rfl,rfl,by decide +kernel⟩
theorem hw:row.toRowW.promised:=by w_witness2
theorem N6:(!row.writes||row.records.isEmpty)=true:=by kernel_rfl
theorem hd (call:WalkO view loose (XL view lv) (Hook.says H) row.toRowW dk.1 dk.2 λf vs=>PySem.call f vs):PySem.Challenge.rw_uf010005_12.Holds:=
 holds_law Kw λk1=>holds_open (q:=view) (loose:=loose) (Xt:=λs=>xlAt view lv s&&recOk (RowW.records (OpenRow.toRowW row)) s) (XP:=XL view lv) (Yf:=Hook.obs H) (Ya:=Hook.val H) (YP:=Hook.says H) (N:=20000)
  left (Hook.of H) (Hook.keeps H) (λs e=>xl_of s (and_eq_true_iff.mp e).1) XL.keeps Ly hp hk (λs e=>recFacts_of (and_eq_true_iff.mp e).2) N6 k1 hok II hw call
end Hq
end
section
namespace Mv
universe u v x y z
theorem Z9 {α:Type u} {β:Type v} {f:α->β} {x:Option α} {b:β} (h:x.map f=some b):∃a,x=some a/\f a=b:=map_eq_some_iff.mp h
theorem Z8:type_of% @length_toList.{u}:=@length_toList
theorem Z7:type_of% @Bool.and_eq_true:=@Bool.and_eq_true
theorem Z6:type_of% @Bool.false_ne_true:=@Bool.false_ne_true
theorem Z5:type_of% @Bool.not_eq_true':=@Bool.not_eq_true'
theorem Z4:type_of% @Bool.or_eq_true:=@Bool.or_eq_true
theorem Z3:type_of% @Bool.true_and:=@Bool.true_and
theorem Z2:type_of% @PySem.Calls.callWith_builtin:=@PySem.Calls.callWith_builtin
theorem Z1:type_of% @PySem.Calls.evalArgs_plain:=@PySem.Calls.evalArgs_plain
theorem Z0:type_of% @PySem.Calls.spliced_cons:=@PySem.Calls.spliced_cons
theorem ZZ:type_of% @PySem.Calls.spliced_nil:=@PySem.Calls.spliced_nil
theorem ZY:type_of% @PySem.Heap.get?_push_of_some:=@PySem.Heap.get?_push_of_some
theorem ZX:type_of% @PySem.Heap.get?_push_size:=@PySem.Heap.get?_push_size
theorem ZW:type_of% @PySem.Heap.get?_update_other:=@PySem.Heap.get?_update_other
theorem ZV:type_of% @PySem.Heap.lt_size:=@PySem.Heap.lt_size
theorem ZU:type_of% @Int.add_zero:=@Int.add_zero
theorem ZT:type_of% @Int.lt_or_gt_of_ne:=@Int.lt_or_gt_of_ne
theorem ZS:type_of% @Int.natCast_nonneg:=@Int.natCast_nonneg
theorem ZR:type_of% @Int.toNat_natCast:=@Int.toNat_natCast
theorem ZQ:type_of% @Int.toNat_of_nonneg:=@Int.toNat_of_nonneg
theorem ZP:type_of% @Int.zero_add:=@Int.zero_add
theorem ZO:type_of% @all_cons.{u}:=@all_cons
theorem ZN:type_of% @all_eq_true.{u}:=@all_eq_true
theorem ZM:type_of% @append_assoc.{u}:=@append_assoc
theorem ZL:type_of% @append_nil.{u}:=@append_nil
theorem ZK:type_of% @List.count_append.{u}:=@List.count_append
theorem ZJ:type_of% @List.drop_eq_getElem_cons.{u}:=@List.drop_eq_getElem_cons
theorem ZI:type_of% @List.drop_zero.{u}:=@List.drop_zero
theorem ZH:type_of% @List.getD_eq_getElem?_getD.{u}:=@List.getD_eq_getElem?_getD
theorem ZG:type_of% @List.getElem?_eq_getElem.{u}:=@List.getElem?_eq_getElem
theorem ZF:type_of% @List.getElem?_map.{u,v}:=@List.getElem?_map
theorem ZE:type_of% @List.length_append.{u}:=@List.length_append
theorem ZD:type_of% @List.length_cons.{u}:=@List.length_cons
theorem ZC:type_of% @List.length_drop.{u}:=@List.length_drop
theorem ZB:type_of% @List.length_map.{u,v}:=@List.length_map
theorem ZA:type_of% @List.length_range:=@List.length_range
theorem Zy:type_of% @List.length_replicate.{u}:=@List.length_replicate
theorem Zx:type_of% @List.length_singleton.{u}:=@List.length_singleton
theorem Zw:type_of% @List.length_take.{u}:=@List.length_take
theorem Zv:type_of% @List.lookup_cons.{u,v}:=@List.lookup_cons
theorem Zu:type_of% @List.map_append.{u,v}:=@List.map_append
theorem Zt:type_of% @map_cons.{u,v}:=@map_cons
theorem Zs:type_of% @map_map.{u,v,x}:=@map_map
theorem Zr:type_of% @map_nil.{u,v}:=@map_nil
theorem Zq:type_of% @List.mem_append_left.{u}:=@List.mem_append_left
theorem Zp:type_of% @List.mem_append_right.{u}:=@List.mem_append_right
theorem Zo:type_of% @List.mem_cons_of_mem.{u}:=@List.mem_cons_of_mem
theorem Zn:type_of% @List.mem_cons_self.{u}:=@List.mem_cons_self
theorem Zm:type_of% @List.mem_of_getElem?.{u}:=@List.mem_of_getElem?
theorem Zl:type_of% @List.mem_singleton.{u}:=@List.mem_singleton
theorem Zk:type_of% @List.nil_append.{u}:=@List.nil_append
theorem Zj:type_of% @List.size_toArray.{u}:=@List.size_toArray
theorem Zi:type_of% @Nat.le_antisymm:=@Nat.le_antisymm
theorem Zh:type_of% @Nat.le_of_ble_eq_true:=@Nat.le_of_ble_eq_true
theorem Zg:type_of% @Nat.le_refl:=@Nat.le_refl
theorem Zf:type_of% @Nat.le_trans:=@Nat.le_trans
theorem Ze:type_of% @Nat.lt_of_lt_of_le:=@Nat.lt_of_lt_of_le
theorem Zd:type_of% @Nat.min_eq_left:=@Nat.min_eq_left
theorem Zc:type_of% @Nat.min_le_right:=@Nat.min_le_right
theorem Zb:type_of% @Nat.mul_comm:=@Nat.mul_comm
theorem Za:type_of% @Nat.sub_add_cancel:=@Nat.sub_add_cancel
theorem Y9:type_of% @Nat.sub_zero:=@Nat.sub_zero
theorem Y8:type_of% @Nat.zero_le:=@Nat.zero_le
theorem Y7:type_of% @map_eq_some_iff.{u,v}:=@map_eq_some_iff
theorem Y6:type_of% @map_some.{u,v}:=@map_some
theorem Y5:type_of% @Option.some.inj.{u}:=@Option.some.inj
theorem Y4:type_of% @Or.elim:=@Or.elim
theorem Y3:type_of% @PyProof.Rows.callWith_type:=@PyProof.Rows.callWith_type
theorem Y2:type_of% @congrArg.{u,v}:=@congrArg
theorem Y1:type_of% @decide_eq_false:=@decide_eq_false
theorem Y0:type_of% @decide_eq_true:=@decide_eq_true
theorem YZ:type_of% @decide_eq_true_eq:=@decide_eq_true_eq
theorem YY:type_of% @decide_false:=@decide_false
theorem YX:type_of% @decide_true:=@decide_true
theorem YW:type_of% @if_neg.{u}:=@if_neg
theorem YV:type_of% @if_pos.{u}:=@if_pos
theorem YU:type_of% @of_decide_eq_true:=@of_decide_eq_true
theorem YT:type_of% @PySem.typeIs_str:=@PySem.typeIs_str
theorem YS:type_of% @PySem.wpAny_bind:=@PySem.wpAny_bind
theorem YR:type_of% @PySem.wpAny_mono:=@PySem.wpAny_mono
theorem YQ:type_of% @PySem.wpAny_newObj_type:=@PySem.wpAny_newObj_type
theorem YO:type_of% @PySem.wpAny_pure:=@PySem.wpAny_pure
theorem NF {r:Nat} (h:1<=r):∃k,r=k+1:=⟨r-1,(Za h).symm⟩
theorem hG {α:Type u} {a:α} {l:List α} {P:α->Prop} (h:∀x∈a::l,P x):∀x∈l,P x:=λx m=>h x (Zo _ m)
open PySem
theorem EF {α:Sort u} {β:Sort v} (P:α->β->Prop) {c:Prop} (k:∀J:α->β->Prop,(∀a b,J a b->P a b)->(∀a b,P a b->J a b)->c):c:=k P (λac az h=>h) λac az h=>h
theorem aM {p:Prop} (h:∀G:Prop,(p->G)->G):p:=h p id
theorem aQ {α:Sort u} {p:α->Prop} {c:Prop} (h:∃a,p a) (k:∀a,p a->c):c:=h.elim k
theorem fW {α:Sort u} {β:Sort v} {p:α->β->Prop} {c:Prop} (h:∃a b,p a b) (k:∀a b,p a b->c):c:=h.elim λa h=>h.elim (k a)
theorem jm {α:Sort u} {β:Sort v} {γ:Sort w} {p:α->β->γ->Prop} {c:Prop} (h:∃a b d,p a b d) (k:∀a b d,p a b d->c):c:=h.elim λa h=>fW h (k a)
theorem oI {α:Sort u} {β:Sort v} {γ:Sort w} {δ:Sort x} {p:α->β->γ->δ->Prop} {c:Prop} (h:∃a b d e,p a b d e) (k:∀a b d e,p a b d e->c):c:=h.elim λa h=>jm h (k a)
@[elab_as_elim] theorem Er {α:Sort u} {a b:α} {M:α->Prop} (h:a=b) (m:M b):M a:=h▸m
noncomputable abbrev D:=PyData
noncomputable abbrev Sz:Nat:=16777216
set_option genCtorIdx true in
inductive Slot where|no|fz (d:D)|own (d:D)|exc (c:Str)
inductive Pl where|var (i:Nat)
set_option genCtorIdx true in
inductive Rv where|fz (d:D)|own (d:D)|pl (p:Pl)
noncomputable abbrev Fm:=List Slot
noncomputable abbrev cR (α:Type):=Option (Except Str α×Fm)
class Kt (α β:Type) where
 run:α->Fm->cR β
noncomputable def ex {α β:Type} (m:cR α) [k:Kt α β]:cR β:=
 match m with
 |none=>none
 |some (.error e,fr)=>some (.error e,fr)
 |some (.ok a,fr)=>k.run a fr
noncomputable abbrev aT {α β:Type} (m:cR α) (k:α->Fm->cR β):cR β:=@ex α β m ⟨k⟩
theorem fP (a:α) (fr:Fm) (k:α->Fm->cR β): @ex α β (some (.ok a,fr)) ⟨k⟩=k a fr:=by rfl
set_option genCtorIdx true in
inductive lU where|add|sub|mul|fdiv|mod|pow
set_option genCtorIdx true in
inductive Cm where|eq|ne|lt|le|gt|ge|isin|notin|is|isnot
set_option genCtorIdx true in
inductive Ty where|tup|int|bool|str|list
inductive Bi where
 |len|isi (t:Ty)|all|int|str|tuple|list
 |lenset|dget|count|dict0
 |join|split|part|up|rfl
set_option genCtorIdx true in
inductive iU where|seq|range
inductive fQ where|one (i:Nat)|tup (is:List Nat)
inductive Ex where
 |lit (d:D)
 |gl (k:Nat)
 |var (i:Nat)
 |pl (p:Pl)
 |tup (es:List Ex)
 |list (es:List Ex)
 |op2 (o:lU) (a b:Ex)
 |neg (a:Ex)
 |not (a:Ex)
 |cmp (o:Cm) (a b:Ex)
 |cmp2 (o p:Cm) (a b c:Ex)
 |and (es:List Ex)
 |or (es:List Ex)
 |ite (c a b:Ex)
 |idx (a i:Ex)
 |slc (a lo hi:Ex)
 |call (f:Nat) (args:List Ex)
 |bi (b:Bi) (args:List Ex)
 |comp (cb:Ex) (t:fQ) (it:iU) (bN:List Ex) (aq:List Ex)
 |isx (i:Nat) (yes no:List Str)
inductive St where
 |asg (t:fQ) (e:Ex)
 |setI (p:Pl) (i e:Ex)
 |app (p:Pl) (e:Ex)
 |iff (c:Ex) (a b:List St)
 |ret (e:Ex)
 |for_ (t:fQ) (it:iU) (bN:List Ex) (body:List St) (cw:List Nat)
 |whl (t:Ex) (body:List St) (cw:List Nat)
 |rpl (i j:Nat) (n:Int)
 |raise (c:Str)
 |try_ (body:List St) (yes:List Str) (v:Nat) (jS:List St)
 |no
set_option genCtorIdx true in
inductive ey where|next|ret (r:Rv)
noncomputable def pI (a b:Int):Bool:=decide (a.natAbs<2 ^ 64)||decide (b.natAbs<2 ^ 64)
noncomputable def u4 (a b:Int):Option Rv:=if pI a b=true then some (.fz (.int (a*b))) else none
noncomputable def rep (n:Int) (xs:List α):List α:=(replicate n.toNat xs).flatten
noncomputable def op2:lU->D->D->Option Rv
 |.add,.int a,.int b=>some (.fz (.int (a+b)))
 |.add,.str a,.str b=>if a.cps.size+b.cps.size<=Sz then some (.fz (.str ⟨a.cps++b.cps⟩)) else none
 |.add,.tuple a,.tuple b=>if a.length+b.length<=Sz then some (.fz (.tuple (a++b))) else none
 |.add,.list a,.list b=>if a.length+b.length<=Sz then some (.own (.list (a++b))) else none
 |.sub,.int a,.int b=>some (.fz (.int (a-b)))
 |.mul,.int a,.int b=>u4 a b
 |.mul,.str a,.int n=>if -1000000000<=n/\n<=1000000000/\a.cps.size*n.toNat<=Sz then some (.fz (.str ⟨(rep n a.cps.toList).toArray⟩)) else none
 |.fdiv,.int a,.int b=>if b≠0/\b.natAbs<2 ^ 64 then some (.fz (.int (a.fdiv b))) else none
 |.mod,.int a,.int b=>if b=0 then none else some (.fz (.int (a.fmod b)))
 |.pow,.int a,.int n=>if 0<=n/\n<=1000/\a.natAbs<2 ^ 64 then some (.fz (.int (a ^ n.toNat))) else none
 |_,_,_=>none
mutual
noncomputable def noDict:D->Bool
 |.none|.bool _|.int _|.str _=>true
 |.list xs|.tuple xs=>noDicts xs
 |.dict _=>false
noncomputable def noDicts:List D->Bool
 |[]=>true
 |x::xs=>noDict x&&noDicts xs
end
noncomputable def qB (a b:D):Bool:=noDict a&&noDict b&&decide (min a.depth b.depth<=64)
noncomputable def mP:D->D->Option Bool
 |.int a,.int b=>some (a==b)
 |.str a,.str b=>some (a.cps.toList==b.cps.toList)
 |.bool a,.bool b=>some (a==b)
 |a,b=>if qB a b then some (eqv a b) else none
noncomputable def iE (x:D):List D->Option Bool
 |[]=>some false
 |y::ys=>match mP y x with
  |none=>none
  |some b=>match iE x ys with
   |none=>none
   |some c=>some (b||c)
noncomputable def b5:List (D×D)->Str->Option D
 |(.str k,d)::r,x=>if k=x then some d else b5 r x
 |_::r,x=>b5 r x
 |[],_=>none
noncomputable def lB:List (D×D)->Str->D->List (D×D)
 |(.str k,d)::r,x,e=>(.str k,if k=x then e else d)::lB r x e
 |p::r,x,e=>p::lB r x e
 |[],_,_=>[]
noncomputable def i8 (l:List (D×D)) (x:Str) (e:D):List (D×D):=if (b5 l x).isSome then lB l x e else l++[(.str x,e)]
noncomputable def dG:List D->Option (List Str)
 |[]=>some []
 |.str x::r=>(dG r).map (x :: ·)
 |_::_=>none
noncomputable def gi:List D->Option (List Bool)
 |[]=>some []
 |.bool x::r=>(gi r).map (x :: ·)
 |_::_=>none
noncomputable def ax:List Str->Nat
 |[]=>0
 |x::r=>if r.contains x then ax r else ax r+1
noncomputable def hJ (xs:List D):Option Rv:=match dG xs with
 |some ks=>if ks.length<=1000 then some (.fz (.int (ax ks.reverse:Nat))) else none
 |none=>none
noncomputable def n5 (x:D):D->Option Bool
 |.list xs=>if noDict x then iE x xs else none
 |.tuple xs=>if noDict x then iE x xs else none
 |.str s=>match x with
  |.str t=>(match t.cps.toList with
   |[c]=>some (s.cps.toList.contains c)
   |_=>none)
  |_=>none
 |.dict kvs=>match x with
  |.str t=>some (b5 kvs t).isSome
  |_=>none
 |_=>none
noncomputable def KR:D->D->Option Bool
 |.none,.none=>some true
 |.bool a,.bool b=>some (a==b)
 |.none,.bool _=>some false
 |.bool _,.none=>some false
 |.int _,.none=>some false
 |.int _,.bool _=>some false
 |.str _,.none=>some false
 |.str _,.bool _=>some false
 |.list _,.none=>some false
 |.list _,.bool _=>some false
 |.tuple _,.none=>some false
 |.tuple _,.bool _=>some false
 |_,_=>none
noncomputable def MN:D->D->Option Bool
 |.int a,.int b=>some (decide (a<b))
 |_,_=>none
noncomputable def MO:D->D->Option Bool
 |.int a,.int b=>some (decide (a<=b))
 |_,_=>none
noncomputable def ag (o:Cm) (a b:D):Option Bool:=match o with
 |.eq=>mP a b
 |.ne=>(mP a b).map (!·)
 |.lt=>MN a b
 |.le=>MO a b
 |.gt=>MN b a
 |.ge=>MO b a
 |.isin=>n5 a b
 |.notin=>(n5 a b).map (!·)
 |.is=>KR a b
 |.isnot=>(KR a b).map (!·)
noncomputable def tD:D->Bool
 |.none=>false
 |.bool b=>b
 |.int i=>i != 0
 |.str s=>s.cps.size != 0
 |.list xs=>!xs.isEmpty
 |.tuple xs=>!xs.isEmpty
 |.dict kvs=>!kvs.isEmpty
noncomputable def xy:D->Option D
 |.int a=>some (.int (-a))
 |_=>none
noncomputable def aW (xs:List α) (i:Int):Option α:=if 0<=i then xs[i.toNat]? else if 0<=i+xs.length then xs[(i+xs.length).toNat]? else none
noncomputable def fU:D->D->Option D
 |.list xs,.int i=>aW xs i
 |.tuple xs,.int i=>aW xs i
 |.str s,.int i=>(aW s.cps.toList i).map λc=>.str ⟨#[c]⟩
 |.dict kvs,.str k=>b5 kvs k
 |_,_=>none
noncomputable def b3 (n:Nat) (i:Int):Nat:=clipAt n i
noncomputable def A5 (n:Nat):D->Option Nat
 |.none=>some 0
 |.int i=>some (b3 n i)
 |_=>none
noncomputable def Br (n:Nat):D->Option Nat
 |.none=>some n
 |.int i=>some (b3 n i)
 |_=>none
noncomputable def cB (xs:List α) (lo hi:Nat):List α:=(xs.drop lo).take (hi-lo)
noncomputable def eS (a lo hi:D):Option Rv:=match a with
 |.list xs=>match A5 xs.length lo,Br xs.length hi with
  |some l,some h=>some (.own (.list (cB xs l h)))
  |_,_=>none
 |.tuple xs=>match A5 xs.length lo,Br xs.length hi with
  |some l,some h=>some (.fz (.tuple (cB xs l h)))
  |_,_=>none
 |.str s=>match A5 s.cps.size lo,Br s.cps.size hi with
  |some l,some h=>some (.fz (.str ⟨(cB s.cps.toList l h).toArray⟩))
  |_,_=>none
 |_=>none
noncomputable def Ie:Ty->D->Bool
 |.tup,.tuple _=>true
 |.int,.int _=>true
 |.int,.bool _=>true
 |.bool,.bool _=>true
 |.str,.str _=>true
 |.list,.list _=>true
 |_,_=>false
noncomputable def allB:List D->Option Bool
 |[]=>some true
 |.bool b::r=>(allB r).map (b && ·)
 |_::_=>none
noncomputable def Bi.loops:Bi->Bool
 |.all=>true
 |.lenset=>true
 |_=>false
noncomputable def A8:D->Option Nat
 |.list xs=>some xs.length
 |.tuple xs=>some xs.length
 |.str s=>some s.cps.size
 |_=>none
noncomputable def au (c:List Nat):List (List Nat)->List Nat
 |[]=>[]
 |[x]=>x
 |x::y::r=>x++c++au c (y::r)
noncomputable def ak (c:Nat):List Nat->List (List Nat)
 |[]=>[[]]
 |x::r=>if x=c then []::ak c r else match ak c r with
  |[]=>[[x]]
  |p::ps=>(x::p)::ps
noncomputable def cz (y:List Nat):List Nat->Option (List Nat×List Nat)
 |[]=>if y.isPrefixOf [] then some ([],[]) else none
 |x::r=>if y.isPrefixOf (x::r) then some ([],(x::r).drop y.length) else(cz y r).map λp=>(x::p.1,p.2)
noncomputable def ek:Nat->List Nat->Option Nat
 |a,[]=>some a
 |a,c::r=>if 48<=c/\c<=57 then ek (a*10+(c-48)) r else none
noncomputable def nZ:List Nat->Option Int
 |[]=>none
 |c::r=>if c=45 then(if r.isEmpty then none else(ek 0 r).map λ(n:Nat)=>-(n:Int)) else(ek 0 (c::r)).map λ(n:Nat)=>(n:Int)
noncomputable def dI (n:Nat):List Nat:=(Nat.toDigits 10 n).map Char.toNat
noncomputable def cK (i:Int):List Nat:=if i<0 then 45::dI i.natAbs else dI i.natAbs
noncomputable abbrev sT (l:List Nat):D:=.str ⟨l.toArray⟩
noncomputable def qW (c:Nat):Nat:=if 97<=c/\c<=122 then c-32 else c
noncomputable def eH (l:List Nat):List Nat:=(ak 10 l.dropLast).getLastD []
noncomputable def pc (x:Str):Option D:=match cz [32,61,32] x.cps.toList with
 |some p=>if x.cps.size+1<=Sz then some (sT (p.1++[32]++p.2)) else none
 |none=>none
noncomputable def dD:Bi->List D->Option Rv
 |.len,[a]=>(A8 a).map λ(n:Nat)=>.fz (.int n)
 |.isi t,[a]=>some (.fz (.bool (Ie t a)))
 |.all,[.list xs]=>(allB xs).map λb=>.fz (.bool b)
 |.int,[.bool b]=>some (.fz (.int (if b then 1 else 0)))
 |.tuple,[.list xs]=>some (.fz (.tuple xs))
 |.tuple,[.tuple xs]=>some (.fz (.tuple xs))
 |.list,[.list xs]=>some (.own (.list xs))
 |.list,[.tuple xs]=>some (.own (.list xs))
 |.lenset,[.list xs]=>hJ xs
 |.lenset,[.tuple xs]=>hJ xs
 |.dget,[.dict kvs,.str k]=>some (.fz ((b5 kvs k).getD .none))
 |.count,[.list xs,.bool b]=>(gi xs).map λbs=>.fz (.int (bs.count b:Nat))
 |.dict0,[]=>some (.own (.dict []))
 |.str,[.int a]=>if a.natAbs<10 ^ 18/\(cK a).length<=20 then some (.fz (sT (cK a))) else none
 |.int,[.str x]=>if x.cps.size<=640 then(nZ x.cps.toList).map λi=>.fz (.int i) else none
 |.join,[.str c,.list xs]=>match dG xs with
  |some ks=>if (ks.map λk=>k.cps.size).sum+ks.length*c.cps.size<=Sz then some (.fz (sT (au c.cps.toList (ks.map λk=>k.cps.toList)))) else none
  |none=>none
 |.split,[.str x,.str y]=>match y.cps.toList with
  |[c]=>if x.cps.size+2<=Sz/\c<128 then some (.own (.list ((ak c x.cps.toList).map sT))) else none
  |_=>none
 |.part,[.str x,.str y]=>if y.cps.size=0 then none else match cz y.cps.toList x.cps.toList with
  |some (a,b)=>some (.fz (.tuple [sT a,.str y,sT b]))
  |none=>some (.fz (.tuple [.str x,sT [],sT []]))
 |.up,[.str x]=>if (x.cps.toList.all λc=>decide (c<128))=true then some (.fz (sT (x.cps.toList.map qW))) else none
 |.rfl,[.str x,.str y]=>if x=y/\1<=x.cps.size then some (.fz (.int ((x.cps.size:Int)-1-(eH x.cps.toList).length-1))) else none
 |_,_=>none
noncomputable def f6 (a:Int) (n:Nat):List D:=(List.range n).map λ(k:Nat)=>.int (a+k)
noncomputable def cj:iU->List D->Option (List D)
 |.seq,[.list xs]=>some xs
 |.seq,[.tuple xs]=>some xs
 |.seq,[.str s]=>some (s.cps.toList.map λc=>.str ⟨#[c]⟩)
 |.range,[.int n]=>if -1000000000<=n/\n<=Sz then some (f6 0 n.toNat) else none
 |_,_=>none
noncomputable def w6 (fr:Fm):Pl->Option D
 |.var i=>match fr[i]? with
  |some (.fz d)=>some d
  |some (.own d)=>some d
  |_=>none
noncomputable def Slot.live:Slot->Bool
 |.no=>false
 |_=>true
noncomputable def kK (fr:Fm):Pl->Bool
 |.var i=>match fr[i]? with
  |some sl=>sl.live
  |none=>false
noncomputable def dT (fr:Fm):Pl->Option D
 |.var i=>match fr[i]? with
  |some (.own d)=>some d
  |_=>none
noncomputable def mC (fr:Fm) (p:Pl) (d:D):Fm:=match p with
 |.var i=>fr.set i (.own d)
noncomputable def bO (fr:Fm):Rv->Option D
 |.fz d=>some d
 |.own d=>some d
 |.pl p=>w6 fr p
noncomputable def bU:Rv->Option D
 |.fz d=>some d
 |.own d=>some d
 |.pl _=>none
noncomputable def iI (fr:Fm):List Rv->Option (List D)
 |[]=>some []
 |r::rs=>match bO fr r,iI fr rs with
  |some d,some ds=>some (d::ds)
  |_,_=>none
noncomputable def fv:List Rv->Option (List D)
 |[]=>some []
 |r::rs=>match bU r,fv rs with
  |some d,some ds=>some (d::ds)
  |_,_=>none
noncomputable def clr (fr:Fm):List Nat->Fm
 |[]=>fr
 |i::is=>clr (fr.set i .no) is
noncomputable def lM (pin:List Nat) (fr:Fm):List Nat->List D->Option Fm
 |[],[]=>some fr
 |i::is,d::ds=>if pin.contains i then none else lM pin (fr.set i (.fz d)) is ds
 |_,_=>none
noncomputable def asgT (pin:List Nat) (fr:Fm) (t:fQ) (r:Rv):Option Fm:=match t with
 |.one i=>if pin.contains i then none else match r with
  |.fz d=>some (fr.set i (.fz d))
  |.own d=>some (fr.set i (.own d))
  |.pl _=>none
 |.tup is=>match bU r with
  |some (.tuple ds)=>lM pin fr is ds
  |_=>none
noncomputable def aL:fQ->List Nat
 |.one i=>[i]
 |.tup is=>is
noncomputable def Js {α β:Type} (cl:List Nat) (m:cR α) [k:Kt α β]:cR β:=
 match m with
 |none=>none
 |some (.error e,fr)=>some (.error e,clr fr cl)
 |some (.ok a,fr)=>k.run a fr
noncomputable abbrev ud {α β:Type} (cl:List Nat) (m:cR α) (k:α->Fm->cR β):cR β:=@Js α β cl m ⟨k⟩
noncomputable def cC (fr:Fm):List Rv->Option (List Slot)
 |[]=>some []
 |r::rs=>match (match r with
   |.fz d=>some (Slot.fz d)
   |.own d=>some (.fz d)
   |.pl (.var i)=>(match fr[i]? with
    |some (.fz d)=>some (.fz d)
    |some (.own d)=>some (.own d)
    |some (.exc c)=>some (.exc c)
    |_=>none)),cC fr rs with
  |some s,some ss=>some (s::ss)
  |_,_=>none
noncomputable def Slot.lent:Slot->Bool
 |.fz _=>false
 |.no=>false
 |.exc _=>false
 |_=>true
noncomputable def c8:List Rv->List Nat
 |[]=>[]
 |.pl (.var i)::rs=>i::c8 rs
 |_::rs=>c8 rs
noncomputable def dA (fr:Fm):List Rv->List Slot->List Slot->Fm
 |r::rs,s::ss,bW=>if s.lent then(match bW with
   |o::os=>(match r with
    |.pl (.var i)=>dA (fr.set i o) rs ss os
    |_=>dA fr rs ss os)
   |[]=>fr) else dA fr rs ss bW
 |_,_,_=>fr
noncomputable def d5:List Slot->Fm->List Slot
 |[],_=>[]
 |s::ss,fr=>if s.lent then fr.headD .no::d5 ss fr.tail else d5 ss fr.tail
noncomputable def gB:Nat->List Slot->List Nat
 |_,[]=>[]
 |k,s::ss=>if s.lent then k::gB (k+1) ss else gB (k+1) ss
structure dj where
 glob:List D
 call:Bool->Nat->List Slot->Option (Except Str Rv×List Slot)
 pin:List Nat
 hd:Bool
noncomputable def qL [f:Kt D (Option D)] (cl:List Nat):List D->Fm->cR (List D)
 |[],fr=>some (.ok [],clr fr cl)
 |d::ds,fr=>aT (f.run d (clr fr cl)) λr fr=>aT (qL (f:=f) cl ds fr) λrs fr=>match r with
  |none=>some (.ok rs,fr)
  |some x=>some (.ok (x::rs),fr)
noncomputable def yN [f:Kt D ey] (cl:List Nat):List D->Fm->cR ey
 |[],fr=>some (.ok .next,clr fr cl)
 |d::ds,fr=>aT (f.run d (clr fr cl)) λc fr=>match c with
  |.next=>yN (f:=f) cl ds fr
  |.ret r=>some (.ok (.ret r),fr)
noncomputable def Kn [t:Kt Unit Bool] [f:Kt Unit ey] (cl:List Nat):Nat->Fm->cR ey
 |0,_=>none
 |n+1,fr=>aT (t.run () (clr fr cl)) λb fr=>match b with
  |true=>aT (f.run () fr) λc fr=>match c with
   |.next=>Kn (t:=t) (f:=f) cl n fr
   |.ret r=>some (.ok (.ret r),fr)
  |false=>some (.ok .next,fr)
noncomputable def px {α:Type} (fr:Fm):Option α->cR α
 |none=>none
 |some a=>some (.ok a,fr)
noncomputable def lH (c:dj) (f:Nat) (rs:List Rv) (fr:Fm):cR Rv:=
 match cC fr rs with
 |none=>none
 |some ss=>if (c8 rs).Nodup then match c.call c.hd f ss with
   |none=>none
   |some (.error e,bW)=>some (.error e,dA fr rs ss bW)
   |some (.ok r,bW)=>(match bU r with
    |none=>none
    |some _=>some (.ok r,dA fr rs ss bW))
  else none
noncomputable def oE (fr:Fm):Option Rv->cR Rv
 |none=>none
 |some (.fz d)=>some (.ok (.fz d),fr)
 |some (.own d)=>some (.ok (.own d),fr)
 |some (.pl _)=>none
theorem ah {r:α} {p:Prop} (h:none=some r):p:=nomatch h
theorem aF {a r:α} (h:some a=some r):a=r:=Y5 h
theorem lQ {a b:α} (h:(Except.ok a:Except ε α) = .ok b):a=b:=Except.ok.inj h
theorem LP {a:α} {e:ε} {p:Prop} (h:(Except.ok a:Except ε α) = .error e):p:=nomatch h
theorem pQ {a:α} {e:ε} {p:Prop} (h:(Except.error e:Except ε α) = .ok a):p:=nomatch h
theorem rG {a b:α} {f g:Fm} (h:some ((Except.ok a:Except Str α),f)=some (.ok b,g)):a=b/\f=g:=⟨lQ (Prod.mk.inj (aF h)).1,(Prod.mk.inj (aF h)).2⟩
theorem d9 {c:Prop} [Decidable c] {a r:α} (h:(if c then some a else none)=some r):c/\a=r:=by
 by_cases q:c
 .rw[YV q]at h;exact⟨q,aF h⟩
 .rw[YW q]at h;exact ah h
theorem KV {c:Prop} [Decidable c] {a r:α} (h:(if c then none else some a)=some r):¬c/\a=r:=by
 by_cases q:c
 .rw[YV q]at h;exact ah h
 .rw[YW q]at h;exact⟨q,aF h⟩
mutual
noncomputable def ev (c:dj):Ex->Fm->cR Rv
 |.lit d,fr=>some (.ok (.fz d),fr)
 |.gl k,fr=>match c.glob[k]? with
  |some d=>some (.ok (.fz d),fr)
  |none=>none
 |.var i,fr=>match fr[i]? with
  |some (.fz d)=>some (.ok (.fz d),fr)
  |some (.own d)=>some (.ok (.fz d),fr.set i (.fz d))
  |_=>none
 |.pl p,fr=>if kK fr p then some (.ok (.pl p),fr) else none
 |.tup es,fr=>aT (lq c es fr) λrs fr=>px fr ((fv rs).map λds=>.fz (.tuple ds))
 |.list es,fr=>aT (lq c es fr) λrs fr=>px fr ((fv rs).map λds=>.own (.list ds))
 |.op2 o a b,fr=>aT (ev c a fr) λx fr=>aT (ev c b fr) λy fr=>match bO fr x,bO fr y with
  |some d,some e=>oE fr (op2 o d e)
  |_,_=>none
 |.neg a,fr=>aT (ev c a fr) λx fr=>match bU x with
  |some d=>px fr ((xy d).map .fz)
  |none=>none
 |.not a,fr=>aT (ev c a fr) λx fr=>match bO fr x with
  |some d=>some (.ok (.fz (.bool (!tD d))),fr)
  |none=>none
 |.cmp o a b,fr=>aT (ev c a fr) λx fr=>aT (ev c b fr) λy fr=>match bO fr x,bO fr y with
  |some d,some e=>px fr ((ag o d e).map λb=>.fz (.bool b))
  |_,_=>none
 |.cmp2 o p a b e,fr=>aT (ev c a fr) λx fr=>aT (ev c b fr) λy fr=>match bU x,bU y with
  |some d,some d'=>(match ag o d d' with
   |none=>none
   |some t=>if t=true then aT (ev c e fr) λz fr=>match bU z with
    |some Gw=>px fr ((ag p d' Gw).map λb=>.fz (.bool b))
    |none=>none
    else some (.ok (.fz (.bool false)),fr))
  |_,_=>none
 |.and es,fr=>jL c es fr
 |.or es,fr=>qz c es fr
 |.ite t a b,fr=>aT (ev c t fr) λx fr=>match bO fr x with
  |some d=>if tD d then aT (ev c a fr) λr fr=>match bU r with
    |none=>none
    |some _=>some (.ok r,fr)
   else aT (ev c b fr) λr fr=>match bU r with
    |none=>none
    |some _=>some (.ok r,fr)
  |none=>none
 |.idx a i,fr=>aT (ev c a fr) λx fr=>aT (ev c i fr) λy fr=>match bO fr x,bU y with
  |some d,some e=>px fr ((fU d e).map .fz)
  |_,_=>none
 |.slc a lo hi,fr=>aT (ev c a fr) λx fr=>aT (ev c lo fr) λy fr=>aT (ev c hi fr) λz fr=>match bO fr x,bU y,bU z with
  |some d,some l,some h=>oE fr (eS d l h)
  |_,_,_=>none
 |.call f args,fr=>aT (lq c args fr) λrs fr=>lH c f rs fr
 |.bi b args,fr=>if c.hd&&b.loops then none else aT (lq c args fr) λrs fr=>match iI fr rs with
  |some ds=>oE fr (dD b ds)
  |none=>none
 |.comp cb t it bN aq,fr=>if c.hd then none else aT (lq c bN fr) λrs fr=>match fv rs with
  |none=>none
  |some ds=>match cj it ds with
   |none=>none
   |some items=>ud (aL t) (qL (f:=⟨λd fr=>match asgT c.pin fr t (.fz d) with
     |none=>none
     |some fr=>aT (dx c aq fr) λb fr=>if b then aT (ev c cb fr) λr fr=>px fr ((bU r).map some) else some (.ok none,fr)⟩) (aL t) items fr)
     λds fr=>some (.ok (.own (.list ds)),fr)
 |.isx i yes no,fr=>match fr[i]? with
  |some (.exc k)=>if yes.contains k=true then some (.ok (.fz (.bool true)),fr) else if no.contains k=true then some (.ok (.fz (.bool false)),fr) else none
  |_=>none
noncomputable def lq (c:dj):List Ex->Fm->cR (List Rv)
 |[],fr=>some (.ok [],fr)
 |e::es,fr=>aT (ev c e fr) λr fr=>aT (lq c es fr) λrs fr=>some (.ok (r::rs),fr)
noncomputable def jL (c:dj):List Ex->Fm->cR Rv
 |[],_=>none
 |e::es,fr=>aT (ev c e fr) λr fr=>match bU r with
  |none=>none
  |some d=>match es with
   |[]=>some (.ok r,fr)
   |_::_=>if tD d then jL c es fr else some (.ok r,fr)
noncomputable def qz (c:dj):List Ex->Fm->cR Rv
 |[],_=>none
 |e::es,fr=>aT (ev c e fr) λr fr=>match bU r with
  |none=>none
  |some d=>match es with
   |[]=>some (.ok r,fr)
   |_::_=>if tD d then some (.ok r,fr) else qz c es fr
noncomputable def dx (c:dj):List Ex->Fm->cR Bool
 |[],fr=>some (.ok true,fr)
 |e::es,fr=>aT (ev c e fr) λr fr=>match bO fr r with
   |none=>none
   |some d=>if tD d then dx c es fr else some (.ok false,fr)
end
noncomputable def AQ:Option D->Bool
 |some (.list _)=>true
 |_=>false
noncomputable def fQ.isTup:fQ->Bool
 |.one _=>false
 |.tup _=>true
noncomputable def ro:D->D->D->Option D
 |.dict kvs,.str k,d=>if kvs.length<Sz then some (.dict (i8 kvs k d)) else none
 |_,_,_=>none
mutual
noncomputable def qv (c:dj):St->Fm->cR ey
 |.asg t e,fr=>if c.hd&&t.isTup then none else aT (ev c e fr) λr fr=>match asgT c.pin fr t r with
  |some fr=>some (.ok .next,fr)
  |none=>none
 |.setI p i e,fr=>aT (ev c e fr) λr fr=>if (dT fr p).isSome then aT (ev c i fr) λk fr=>match bU r,bU k,dT fr p with
  |some d,some k,some o=>(match ro o k d with
   |some o'=>some (.ok .next,mC fr p o')
   |none=>none)
  |_,_,_=>none
  else none
 |.app p e,fr=>if AQ (dT fr p) then aT (ev c e fr) λr fr=>match bU r,dT fr p with
  |some d,some (.list xs)=>if xs.length<Sz then some (.ok .next,mC fr p (.list (xs++[d]))) else none
  |_,_=>none
  else none
 |.iff t a b,fr=>aT (ev c t fr) λx fr=>match bO fr x with
  |some d=>if tD d then du c a fr else du c b fr
  |none=>none
 |.ret e,fr=>aT (ev c e fr) λr fr=>match r with
  |.pl _=>none
  |r=>some (.ok (.ret r),fr)
 |.for_ t it bN body cw,fr=>if c.hd then none else aT (lq c bN fr) λrs fr=>match fv rs with
  |none=>none
  |some ds=>match cj it ds with
   |none=>none
   |some items=>yN (f:=⟨λd fr=>match asgT c.pin fr t (.fz d) with
     |none=>none
     |some fr=>du c body fr⟩) cw items fr
 |.whl t body cw,fr=>if c.hd then none else Kn (t:=⟨λac fr=>aT (ev c t fr) λr fr=>match bO fr r with
   |some d=>some (.ok (tD d),fr)
   |none=>none⟩) (f:=⟨λac fr=>du c body fr⟩) cw Sz fr
 |.no,_=>none
 |.rpl i j n,fr=>match fr[i]?,fr[j]? with
  |some (.fz (.str x)),some (.fz (.int v))=>if v=n then(match pc x with
   |some d=>some (.ok (.ret (.fz d)),fr)
   |none=>none) else some (.ok .next,fr)
  |_,_=>none
 |.raise k,fr=>if c.hd then none else some (.error k,fr)
 |.try_ body yes v jS,fr=>if c.hd then none else match du c body fr with
  |none=>none
  |some (.ok k,fr)=>some (.ok k,fr)
  |some (.error e,fr)=>if yes.contains e=true/\ ¬c.pin.contains v=true then(match du {c with hd:=true} jS (fr.set v (.exc e)) with
   |some (.ok k,fr)=>some (.ok k,fr.set v .no)
   |_=>none) else none
noncomputable def du (c:dj):List St->Fm->cR ey
 |[],fr=>some (.ok .next,fr)
 |s::ss,fr=>aT (qv c s fr) λk fr=>match k with
  |.next=>du c ss fr
  |.ret r=>some (.ok (.ret r),fr)
end
structure Fn where
 np:Nat
 nv:Nat
 body:List St
structure Pr where
 glob:List D
 fns:List Fn
noncomputable def cF (P:Pr):Nat->Bool->Nat->List Slot->Option (Except Str Rv×List Slot)
 |0,_,_,_=>none
 |n+1,hd,f,args=>match P.fns[f]? with
  |none=>none
  |some fn=>if args.length=fn.np then
    match du ⟨P.glob,cF P n,gB 0 args,hd⟩ fn.body (args++replicate (fn.nv-fn.np) .no) with
    |none=>none
    |some (.error e,fr)=>some (.error e,d5 args fr)
    |some (.ok .next,fr)=>some (.ok (.fz .none),d5 args fr)
    |some (.ok (.ret r),fr)=>some (.ok r,d5 args fr)
   else none
end Mv
namespace Mv
inductive NE where|v (i:Nat)|c (n:Nat)|a (x y:NE)|m (k:Nat) (x:NE)
inductive IE where|v (i:Nat)|c (z:Int)|n (x:NE)|a (x y:IE)|s (x y:IE)|g (x:IE)|m (k:Int) (x:IE)
noncomputable abbrev NE.x:NE:=.v 0
noncomputable abbrev NE.y:NE:=.v 1
noncomputable abbrev NE.z:NE:=.v 2
noncomputable abbrev NE.u:NE:=.v 3
noncomputable abbrev IE.x:IE:=.v 0
noncomputable abbrev IE.y:IE:=.v 1
noncomputable abbrev IE.z:IE:=.v 2
noncomputable abbrev IE.u:IE:=.v 3
noncomputable abbrev NE.p (n:Nat) (x:NE):NE:=.a x (.c n)
noncomputable abbrev IE.p (n:Int) (x:IE):IE:=.a x (.c n)
noncomputable def Jv:List Nat->Nat->Nat
 |[],_=>0
 |x::_,0=>x
 |_::l,i+1=>Jv l i
noncomputable def Jw:List Int->Nat->Int
 |[],_=>0
 |x::_,0=>x
 |_::l,i+1=>Jw l i
noncomputable def NE.d (ns:List Nat):NE->Nat
 |.v i=>Jv ns i
 |.c n=>n
 |.a x y=>x.d ns+y.d ns
 |.m k x=>k*x.d ns
noncomputable def IE.d (ns:List Nat) (is:List Int):IE->Int
 |.v i=>Jw is i
 |.c z=>z
 |.n x=>((x.d ns:Nat):Int)
 |.a x y=>x.d ns is+y.d ns is
 |.s x y=>x.d ns is-y.d ns is
 |.g x=>- x.d ns is
 |.m k x=>k*x.d ns is
noncomputable def nq:List Int->List Int->List Int
 |[],l=>l
 |l,[]=>l
 |x::l,y::r=>(x+y)::nq l r
noncomputable def oN (k:Int) (l:List Int):List Int:=l.map (k * ·)
noncomputable def nt:Nat->List Int
 |0=>[1]
 |i+1=>0::nt i
structure LF where
 k:Int
 n:List Int
 i:List Int
noncomputable def LF.add (x y:LF):LF:=⟨x.k+y.k,nq x.n y.n,nq x.i y.i⟩
noncomputable def LF.mul (k:Int) (x:LF):LF:=⟨k*x.k,oN k x.n,oN k x.i⟩
noncomputable def NE.l:NE->LF
 |.v i=>⟨0,nt i,[]⟩
 |.c n=>⟨n,[],[]⟩
 |.a x y=>x.l.add y.l
 |.m k x=>x.l.mul k
noncomputable def IE.l:IE->LF
 |.v i=>⟨0,[],nt i⟩
 |.c z=>⟨z,[],[]⟩
 |.n x=>x.l
 |.a x y=>x.l.add y.l
 |.s x y=>x.l.add (y.l.mul (-1))
 |.g x=>x.l.mul (-1)
 |.m k x=>x.l.mul k
noncomputable def fO:List Int->List Nat->Int
 |x::l,y::r=>x*y+fO l r
 |_,_=>0
noncomputable def fA:List Int->List Int->Int
 |x::l,y::r=>x*y+fA l r
 |_,_=>0
noncomputable def LF.d (ns:List Nat) (is:List Int) (x:LF):Int:=x.k+fO x.n ns+fA x.i is
theorem Kh (a b c d:Int):a+b+(c+d)=a+c+(b+d):=by
 rw[Int.add_assoc,Int.add_assoc,Int.add_left_comm b]
theorem m1 (y:Int): -1*y = -y:=by rw[Int.neg_mul,Int.one_mul]
theorem zg:∀(a b:List Int) (r:List Nat),fO (nq a b) r=fO a r+fO b r:=by
 intro a b r
 induction a generalizing b r with
 |nil=>exact(ZP _).symm
 |cons x a ih=>
  cases b with
  |nil=>exact(ZU _).symm
  |cons y b=>
   cases r with
   |nil=>exact rfl
   |cons z r=>
     show(x+y)*(z:Int)+fO (nq a b) r=x*z+fO a r+(y*z+fO b r)
     rw[ih b r,Int.add_mul];exact Kh _ _ _ _
theorem zi:∀(a b:List Int) (r:List Int),fA (nq a b) r=fA a r+fA b r:=by
 intro a b r
 induction a generalizing b r with
 |nil=>exact(ZP _).symm
 |cons x a ih=>
  cases b with
  |nil=>exact(ZU _).symm
  |cons y b=>
   cases r with
   |nil=>exact rfl
   |cons z r=>
     show(x+y)*z+fA (nq a b) r=x*z+fA a r+(y*z+fA b r)
     rw[ih b r,Int.add_mul];exact Kh _ _ _ _
theorem zf (k:Int):∀(a:List Int) (r:List Nat),fO (oN k a) r=k*fO a r:=by
 intro a r
 induction a generalizing r with
 |nil=>exact(Int.mul_zero k).symm
 |cons x a ih=>
  cases r with
  |nil=>exact(Int.mul_zero k).symm
  |cons z r=>
    show k*x*(z:Int)+fO (oN k a) r=k*(x*z+fO a r)
    rw[ih r,mul_add,Int.mul_assoc]
theorem zh (k:Int):∀(a:List Int) (r:List Int),fA (oN k a) r=k*fA a r:=by
 intro a r
 induction a generalizing r with
 |nil=>exact(Int.mul_zero k).symm
 |cons x a ih=>
  cases r with
  |nil=>exact(Int.mul_zero k).symm
  |cons z r=>
    show k*x*z+fA (oN k a) r=k*(x*z+fA a r)
    rw[ih r,mul_add,Int.mul_assoc]
theorem vN:∀(i:Nat) (r:List Nat),fO (nt i) r=(Jv r i:Int):=by
 intro i r
 induction i generalizing r with
 |zero=>
  cases r with
  |nil=>exact rfl
  |cons x r=>show 1*(x:Int)+0=x;rw[Int.one_mul,ZU]
 |succ i ih=>
  cases r with
  |nil=>exact rfl
  |cons x r=>show 0*(x:Int)+fO (nt i) r=(Jv r i:Int);rw[ih r,zero_mul,ZP]
theorem vP:∀(i:Nat) (r:List Int),fA (nt i) r=Jw r i:=by
 intro i r
 induction i generalizing r with
 |zero=>
  cases r with
  |nil=>exact rfl
  |cons x r=>show 1*x+0=x;rw[Int.one_mul,ZU]
 |succ i ih=>
  cases r with
  |nil=>exact rfl
  |cons x r=>show 0*x+fA (nt i) r=Jw r i;rw[ih r,zero_mul,ZP]
theorem LF.d_add (ns:List Nat) (is:List Int) (x y:LF):(x.add y).d ns is=x.d ns is+y.d ns is:=by
 show x.k+y.k+fO (nq x.n y.n) ns+fA (nq x.i y.i) is=(x.k+fO x.n ns+fA x.i is)+(y.k+fO y.n ns+fA y.i is)
 rw[zg,zi,Kh x.k];exact Kh _ _ _ _
theorem LF.d_mul (ns:List Nat) (is:List Int) (k:Int) (x:LF):(x.mul k).d ns is=k*x.d ns is:=by
 show k*x.k+fO (oN k x.n) ns+fA (oN k x.i) is=k*(x.k+fO x.n ns+fA x.i is)
 rw[zf,zh,mul_add,mul_add]
theorem LF.d_sub (ns:List Nat) (is:List Int) (x y:LF):(x.add (y.mul (-1))).d ns is=x.d ns is-y.d ns is:=by
 rw[LF.d_add,LF.d_mul,m1,Int.sub_eq_add_neg]
theorem NE.l_d (ns:List Nat) (is:List Int):∀e:NE,e.l.d ns is=(e.d ns:Int)
 |.v i=>by show 0+fO (nt i) ns+0=(Jv ns i:Int);rw[vN,ZP,ZU]
 |.c n=>by show(n:Int)+0+0=n;rw[ZU,ZU]
 |.a x y=>by show(x.l.add y.l).d ns is=((x.d ns+y.d ns:Nat):Int);rw[LF.d_add,NE.l_d ns is x,NE.l_d ns is y,natCast_add]
 |.m k x=>by show(x.l.mul k).d ns is=((k*x.d ns:Nat):Int);rw[LF.d_mul,NE.l_d ns is x,Int.natCast_mul]
theorem IE.l_d (ns:List Nat) (is:List Int):∀e:IE,e.l.d ns is=e.d ns is
 |.v i=>by show 0+0+fA (nt i) is=Jw is i;rw[vP,ZU,ZP]
 |.c z=>by show z+0+0=z;rw[ZU,ZU]
 |.n x=>NE.l_d ns is x
 |.a x y=>by show(x.l.add y.l).d ns is=x.d ns is+y.d ns is;rw[LF.d_add,IE.l_d ns is x,IE.l_d ns is y]
 |.s x y=>by show(x.l.add (y.l.mul (-1))).d ns is=x.d ns is-y.d ns is;rw[LF.d_sub,IE.l_d ns is x,IE.l_d ns is y]
 |.g x=>by show(x.l.mul (-1)).d ns is = - x.d ns is;rw[LF.d_mul,IE.l_d ns is x,m1]
 |.m k x=>by show(x.l.mul k).d ns is=k*x.d ns is;rw[LF.d_mul,IE.l_d ns is x]
inductive Cn where|i (x y:IE)|j (x y:IE)|w (x y:NE)|e (x y:NE)
noncomputable abbrev Gl (x y:NE):Int×Cn:=(1,.w x y)
noncomputable abbrev Ge (x y:NE):Int×Cn:=(1,.e x y)
noncomputable abbrev Gf (x y:NE):Int×Cn:=(-1,.e x y)
noncomputable abbrev Gi (x y:IE):Int×Cn:=(1,.i x y)
noncomputable abbrev Gj (x y:IE):Int×Cn:=(1,.j x y)
noncomputable abbrev Gk (x y:IE):Int×Cn:=(-1,.j x y)
noncomputable abbrev Gp (x y:NE):Int×Int×Cn:=(1,-1,.e x y)
noncomputable abbrev Gq (x y:NE):Int×Int×Cn:=(-1,1,.e x y)
noncomputable abbrev Gr (x y:IE):Int×Int×Cn:=(1,-1,.j x y)
noncomputable abbrev Gs (x y:IE):Int×Int×Cn:=(-1,1,.j x y)
def Cn.d (ns:List Nat) (is:List Int):Cn->Prop
 |.i x y=>x.d ns is<=y.d ns is
 |.j x y=>x.d ns is=y.d ns is
 |.w x y=>x.d ns<=y.d ns
 |.e x y=>x.d ns=y.d ns
noncomputable def Cn.l:Cn->LF
 |.i x y=>y.l.add (x.l.mul (-1))
 |.j x y=>y.l.add (x.l.mul (-1))
 |.w x y=>y.l.add (x.l.mul (-1))
 |.e x y=>y.l.add (x.l.mul (-1))
noncomputable def Cn.ok (k:Int):Cn->Bool
 |.i _ _=>decide (0<=k)
 |.j _ _=>true
 |.w _ _=>decide (0<=k)
 |.e _ _=>true
theorem Cn.nn {ns:List Nat} {is:List Int} {k:Int} {c:Cn} (h:c.d ns is) (o:c.ok k=true):0<=(c.l.mul k).d ns is:=by
 rw[LF.d_mul];cases c with
 |i x y=>
  show 0<=k*(y.l.add (x.l.mul (-1))).d ns is
  rw[LF.d_sub,IE.l_d,IE.l_d];exact mul_nonneg (YU o) (Int.sub_nonneg_of_le h)
 |j x y=>
  show 0<=k*(y.l.add (x.l.mul (-1))).d ns is
  rw[LF.d_sub,IE.l_d,IE.l_d,show x.d ns is=y.d ns is from h,Int.sub_self,Int.mul_zero];exact Int.le_refl _
 |w x y=>
  show 0<=k*(y.l.add (x.l.mul (-1))).d ns is
  rw[LF.d_sub,NE.l_d,NE.l_d];exact mul_nonneg (YU o) (Int.sub_nonneg_of_le (ofNat_le.mpr h))
 |e x y=>
  show 0<=k*(y.l.add (x.l.mul (-1))).d ns is
  rw[LF.d_sub,NE.l_d,NE.l_d,show x.d ns=y.d ns from h,Int.sub_self,Int.mul_zero];exact Int.le_refl _
noncomputable def oU:List (Int×Cn)->LF
 |[]=>⟨0,[],[]⟩
 |(k,c)::cs=>(c.l.mul k).add (oU cs)
noncomputable def Gb:List (Int×Cn)->Bool
 |[]=>true
 |(k,c)::cs=>c.ok k&&Gb cs
noncomputable def LF.neg (x:LF):Bool:=decide (x.k<0)&&(x.n.all (λz=>decide (z<=0))&&x.i.all λz=>decide (z=0))
theorem BP:∀(a:List Int) (r:List Nat),(a.all λz=>decide (z<=0))=true->fO a r<=0:=by
 intro a r
 induction a generalizing r with
 |nil=>exact @λac=>Int.le_refl 0
 |cons x a ih=>
  cases r with
  |nil=>exact @λac=>Int.le_refl 0
  |cons z r=>
    intro h;rw[ZO,Z7,YZ]at h;exact Int.add_le_add (Int.mul_nonpos_of_nonpos_of_nonneg h.1 (ZS z)) (ih r h.2)
theorem vO:∀(a r:List Int),(a.all λz=>decide (z=0))=true->fA a r=0:=by
 intro a r
 induction a generalizing r with
 |nil=>exact @λac=>rfl
 |cons x a ih=>
  cases r with
  |nil=>exact @λac=>rfl
  |cons z r=>
    intro h;rw[ZO,Z7,YZ]at h;show x*z+fA a r=0
    rw[ih r h.2,h.1,zero_mul,ZU]
theorem LF.neg_d {ns:List Nat} {is:List Int} {x:LF} (h:x.neg=true):x.d ns is<0:=by
 unfold LF.neg at h;rw[Z7,Z7,YZ]at h;have h1:=BP x.n ns h.2.1;have h2:=vO x.i is h.2.2;unfold LF.d;omega
def imp (ns:List Nat) (is:List Int) (G:Prop):List (Int×Cn)->Prop
 |[]=>G
 |(_,c)::cs=>c.d ns is->imp ns is G cs
theorem yq {ns:List Nat} {is:List Int} {G:Prop}:∀(cs:List (Int×Cn)) (aE:Int),Gb cs=true->0<=aE->(aE+(oU cs).d ns is<0\/(0<=aE+(oU cs).d ns is->G))->imp ns is G cs:=by
 intro cs
 induction cs with
 |nil=>
  intro aE _ h0 h;have e:(oU []).d ns is=0:=by show(0:Int)+0+0=0;rfl
  rw[e,ZU]at h;exact h.elim (λq=>absurd h0 (Int.not_le.mpr q)) λq=>q h0
 |cons p0 cs ih=>
  obtain⟨k,c⟩:=p0;intro aE ho h0 h;intro hc;rw[show Gb ((k,c)::cs)=(c.ok k&&Gb cs) from rfl,Z7]at ho;have n:=Cn.nn (k:=k) hc ho.1;refine ih (aE+(c.l.mul k).d ns is) ho.2 (by omega) ?_;have e:(oU ((k,c)::cs)).d ns is=(c.l.mul k).d ns is+(oU cs).d ns is:=LF.d_add ..;rw[e,<- Int.add_assoc]at h;exact h
noncomputable def Cn.den:Cn->LF
 |.i x y=>(x.l.add (y.l.mul (-1))).add ⟨-1,[],[]⟩
 |.w x y=>(x.l.add (y.l.mul (-1))).add ⟨-1,[],[]⟩
 |_=>⟨0,[],[]⟩
noncomputable def Cn.isLe:Cn->Bool
 |.i _ _=>true
 |.w _ _=>true
 |_=>false
theorem GQ {a b:Int} (h:a-b + -1<0):a<=b:=by omega
theorem Cn.den_d {ns:List Nat} {is:List Int} {c:Cn} (hl:c.isLe=true) (h:c.den.d ns is<0):c.d ns is:=by
 have key:∀x y:LF,((x.add (y.mul (-1))).add ⟨-1,[],[]⟩).d ns is=x.d ns is-y.d ns is + -1:=λx y=>by
  rw[LF.d_add,LF.d_sub];rfl
 cases c with
 |i x y=>
  have h:((x.l.add (y.l.mul (-1))).add ⟨-1,[],[]⟩).d ns is<0:=h;rw[key,IE.l_d,IE.l_d]at h;exact GQ h
 |w x y=>
  have h:((x.l.add (y.l.mul (-1))).add ⟨-1,[],[]⟩).d ns is<0:=h;rw[key,NE.l_d,NE.l_d]at h;exact ofNat_le.mp (GQ h)
 |j x y=>cases hl
 |e x y=>cases hl
noncomputable def chk (g:Int) (G:Cn) (cs:List (Int×Cn)):Bool:=decide (0<=g)&&(G.isLe&&(Gb cs&&((G.den.mul g).add (oU cs)).neg))
theorem d7 (ns:List Nat) (is:List Int) (g:Int) (G:Cn) (cs:List (Int×Cn)) (h:chk g G cs=true):imp ns is (G.d ns is) cs:=by
 unfold chk at h;rw[Z7,Z7,Z7,YZ]at h;obtain⟨h0,h1,h2,h3⟩:=h;refine yq cs 0 h2 (Int.le_refl _) (.inr λhs=>?_);rw[ZP]at hs;have hn:=LF.neg_d (ns:=ns) (is:=is) h3;rw[LF.d_add,LF.d_mul]at hn;refine Cn.den_d h1 (Int.not_le.mp λq=>?_);have:=mul_nonneg h0 q
 omega
noncomputable def Cn.fw:Cn->Cn
 |.i x y=>.i x y
 |.j x y=>.i x y
 |.w x y=>.w x y
 |.e x y=>.w x y
noncomputable def Cn.bw:Cn->Cn
 |.i x y=>.i x y
 |.j x y=>.i y x
 |.w x y=>.w x y
 |.e x y=>.w y x
noncomputable def f1 (p:Int×Int×Cn):Int×Cn:=(p.1,p.2.2)
noncomputable def f2 (p:Int×Int×Cn):Int×Cn:=(p.2.1,p.2.2)
theorem Bl {ns:List Nat} {is:List Int} {P Q R:Prop} (k:P->Q->R) (cs:List (Int×Int×Cn)):imp ns is P (cs.map f1)->imp ns is Q (cs.map f2)->imp ns is R (cs.map f1):=by
 induction cs with
 |nil=>exact k
 |cons p cs ih=>exact λa b h=>ih (a h) (b h)
theorem rT (ns:List Nat) (is:List Int) (G:Cn) (cs:List (Int×Int×Cn)) (h:(chk 1 G.fw (cs.map f1)&&chk 1 G.bw (cs.map f2))=true):imp ns is (G.d ns is) (cs.map f1):=by
 rw[Z7]at h;refine Bl ?_ cs (d7 ns is 1 _ _ h.1) (d7 ns is 1 _ _ h.2);cases G with
 |i x y=>exact λp ac=>p
 |j x y=>exact λp q=>Int.le_antisymm p q
 |w x y=>exact λp ac=>p
 |e x y=>exact λp q=>Zi p q
theorem Le (ns:List Nat) (G:Cn) (cs:List (Int×Int×Cn)) (h:(chk 1 G.fw (cs.map f1)&&chk 1 G.bw (cs.map f2))=true):imp ns [] (G.d ns []) (cs.map f1):=rT ns [] G cs h
theorem Ln (ns:List Nat) (G:Cn) (cs:List (Int×Cn)) (h:chk 1 G cs=true):imp ns [] (G.d ns []) cs:=d7 ns [] 1 G cs h
theorem L1 (ns:List Nat) (a b c d:NE) (h:chk 1 (.w a b) [(1,.w c d)]=true):imp ns [] ((Cn.w a b).d ns []) [(1,.w c d)]:=Ln ns _ _ h
theorem L0 (ns:List Nat) (a b:NE) (h:chk 1 (.w a b) []=true):imp ns [] ((Cn.w a b).d ns []) []:=Ln ns _ _ h
theorem Li (is:List Int) (G:Cn) (cs:List (Int×Cn)) (h:chk 1 G cs=true):imp [] is (G.d [] is) cs:=d7 [] is 1 G cs h
noncomputable def chkF (cs:List (Int×Cn)):Bool:=Gb cs&&(oU cs).neg
theorem dW (ns:List Nat) (is:List Int) (cs:List (Int×Cn)) (h:chkF cs=true):imp ns is False cs:=by
 unfold chkF at h;rw[Z7]at h;refine yq cs 0 h.1 (Int.le_refl _) (.inl ?_);rw[ZP];exact LF.neg_d h.2
theorem Lf (ns:List Nat) (cs:List (Int×Cn)) (h:chkF cs=true):imp ns [] False cs:=dW ns [] cs h
open PySem
theorem sB (f:Kt D (Option D)) (cl:List Nat) (d:D) (ds:List D) (fr:Fm): @qL f cl (d::ds) fr=aT (f.run d (clr fr cl)) λr fr=>aT (@qL f cl ds fr) λrs fr=>match r with
  |none=>some (.ok rs,fr)
  |some x=>some (.ok (x::rs),fr):=rfl
theorem vo (f:Kt D ey) (cl:List Nat) (d:D) (ds:List D) (fr:Fm): @yN f cl (d::ds) fr=aT (f.run d (clr fr cl)) λc fr=>match c with
  |.next=>@yN f cl ds fr
  |.ret r=>some (.ok (.ret r),fr):=rfl
theorem FI (q:cR α): @ex _ _ q ⟨λrs fr=>some (.ok rs,fr)⟩=q:=by rcases q with _|⟨_|_,_⟩<;>rfl
section
variable (c:dj) (fr:Fm)
theorem qy (k:Nat):ev c (.gl k) fr=match c.glob[k]? with
  |some d=>some (.ok (.fz d),fr)
  |none=>none:=rfl
theorem lr (i:Nat):ev c (.var i) fr=match fr[i]? with
  |some (.fz d)=>some (.ok (.fz d),fr)
  |some (.own d)=>some (.ok (.fz d),fr.set i (.fz d))
  |_=>none:=rfl
theorem qw (p:Pl):ev c (.pl p) fr=if kK fr p then some (.ok (.pl p),fr) else none:=rfl
theorem y3 (es:List Ex):ev c (.tup es) fr=ex (k:=⟨λrs fr=>px fr ((fv rs).map λds=>.fz (.tuple ds))⟩) (lq c es fr):=rfl
theorem t6 (es:List Ex):ev c (.list es) fr=ex (k:=⟨λrs fr=>px fr ((fv rs).map λds=>.own (.list ds))⟩) (lq c es fr):=rfl
theorem y5 (o:lU) (a b:Ex):ev c (.op2 o a b) fr=ex (k:=⟨λx fr=>ex (k:=⟨λy fr=>match bO fr x,bO fr y with
  |some d,some e=>oE fr (op2 o d e)
  |_,_=>none⟩) (ev c b fr)⟩) (ev c a fr):=rfl
theorem y6 (a:Ex):ev c (.neg a) fr=ex (k:=⟨λx fr=>match bU x with
  |some d=>px fr ((xy d).map .fz)
  |none=>none⟩) (ev c a fr):=rfl
theorem so (a:Ex):ev c (.not a) fr=ex (k:=⟨λx fr=>match bO fr x with
  |some d=>some (.ok (.fz (.bool (!tD d))),fr)
  |none=>none⟩) (ev c a fr):=rfl
theorem su (o:Cm) (a b:Ex):ev c (.cmp o a b) fr=ex (k:=⟨λx fr=>ex (k:=⟨λy fr=>match bO fr x,bO fr y with
  |some d,some e=>px fr ((ag o d e).map λb=>.fz (.bool b))
  |_,_=>none⟩) (ev c b fr)⟩) (ev c a fr):=rfl
theorem oq (o p:Cm) (a b e:Ex):ev c (.cmp2 o p a b e) fr=ex (k:=⟨λx fr=>ex (k:=⟨λy fr=>match bU x,bU y with
  |some d,some d'=>(match ag o d d' with
   |none=>none
   |some t=>if t=true then ex (k:=⟨λz fr=>match bU z with
    |some Gw=>px fr ((ag p d' Gw).map λb=>.fz (.bool b))
    |none=>none⟩) (ev c e fr) else some (.ok (.fz (.bool false)),fr))
  |_,_=>none⟩) (ev c b fr)⟩) (ev c a fr):=rfl
theorem lw (es:List Ex):ev c (.and es) fr=jL c es fr:=rfl
theorem qx (es:List Ex):ev c (.or es) fr=qz c es fr:=rfl
theorem sq (t a b:Ex):ev c (.ite t a b) fr=ex (k:=⟨λx fr=>match bO fr x with
  |some d=>if tD d then ex (k:=⟨λr fr=>match bU r with
    |none=>none
    |some _=>some (.ok r,fr)⟩) (ev c a fr)
   else ex (k:=⟨λr fr=>match bU r with
    |none=>none
    |some _=>some (.ok r,fr)⟩) (ev c b fr)
  |none=>none⟩) (ev c t fr):=rfl
theorem y7 (a i:Ex):ev c (.idx a i) fr=ex (k:=⟨λx fr=>ex (k:=⟨λy fr=>match bO fr x,bU y with
  |some d,some e=>px fr ((fU d e).map .fz)
  |_,_=>none⟩) (ev c i fr)⟩) (ev c a fr):=rfl
theorem y4 (a lo hi:Ex):ev c (.slc a lo hi) fr=ex (k:=⟨λx fr=>ex (k:=⟨λy fr=>ex (k:=⟨λz fr=>match bO fr x,bU y,bU z with
  |some d,some l,some h=>oE fr (eS d l h)
  |_,_,_=>none⟩) (ev c hi fr)⟩) (ev c lo fr)⟩) (ev c a fr):=rfl
theorem t8 (f:Nat) (args:List Ex):ev c (.call f args) fr=ex (k:=⟨λrs fr=>lH c f rs fr⟩) (lq c args fr):=rfl
theorem lu (b:Bi) (args:List Ex):ev c (.bi b args) fr=if c.hd&&b.loops then none else ex (k:=⟨λrs fr=>match iI fr rs with
  |some ds=>oE fr (dD b ds)
  |none=>none⟩) (lq c args fr):=rfl
noncomputable def aZ (cb:Ex) (t:fQ) (aq:List Ex) (items:List D):cR (List D):=
 qL (f:=⟨λd fr=>match asgT c.pin fr t (.fz d) with
     |none=>none
     |some fr=>aT (dx c aq fr) λb fr=>if b then aT (ev c cb fr) λr fr=>px fr ((bU r).map some) else some (.ok none,fr)⟩) (aL t) items fr
theorem t7 (cb:Ex) (t:fQ) (it:iU) (bN aq:List Ex):ev c (.comp cb t it bN aq) fr=if c.hd then none else ex (k:=⟨λrs fr=>match fv rs with
  |none=>none
  |some ds=>match cj it ds with
   |none=>none
   |some items=>Js (k:=⟨λds fr=>some (.ok (.own (.list ds)),fr)⟩) (aL t) (aZ c fr cb t aq items)⟩) (lq c bN fr):=rfl
theorem sr (i:Nat) (yes no:List Str):ev c (.isx i yes no) fr=match fr[i]? with
  |some (.exc k)=>if yes.contains k=true then some (.ok (.fz (.bool true)),fr) else if no.contains k=true then some (.ok (.fz (.bool false)),fr) else none
  |_=>none:=rfl
theorem bc (cb:Ex) (t:fQ) (aq:List Ex):aZ c fr cb t aq []=some (.ok [],clr fr (aL t)):=rfl
theorem lF (cb:Ex) (t:fQ) (aq:List Ex) (d:D) (ds:List D):aZ c fr cb t aq (d::ds) =
  match asgT c.pin (clr fr (aL t)) t (.fz d) with
  |none=>none
  |some fr=>ex (k:=⟨λb fr=>if b=true then ex (k:=⟨λr fr=>match bU r with
    |none=>none
    |some x=>ex (k:=⟨λrs fr=>some (.ok (x::rs),fr)⟩) (aZ c fr cb t aq ds)⟩) (ev c cb fr) else aZ c fr cb t aq ds⟩) (dx c aq fr):=by
 unfold aZ;refine(sB _ _ _ _ _).trans ?_;dsimp only;cases asgT c.pin (clr fr (aL t)) t (.fz d) with
 |none=>rfl
 |some fr=>
  dsimp only[aT]
  rcases dx c aq fr with _|⟨_|b,fr⟩
  .rfl
  .rfl
  .rw[fP,fP]
   cases b with
   |false=>
    simp only[false_eq_true,if_false,fP];exact FI _
   |true=>
    simp only[if_true]
    rcases ev c cb fr with _|⟨_|r,fr⟩
    .rfl
    .rfl
    .rw[fP,fP]
     cases bU r with
     |none=>rfl
     |some x=>rfl
theorem BK:lq c [] fr=some (.ok [],fr):=rfl
theorem dw (e:Ex) (es:List Ex):lq c (e::es) fr=ex (k:=⟨λr fr=>ex (k:=⟨λrs fr=>some (.ok (r::rs),fr)⟩) (lq c es fr)⟩) (ev c e fr):=rfl
theorem hU (e:Ex):jL c [e] fr=ex (k:=⟨λr fr=>match bU r with
  |none=>none
  |some _=>some (.ok r,fr)⟩) (ev c e fr):=rfl
theorem gf (e e':Ex) (es:List Ex):jL c (e::e'::es) fr=ex (k:=⟨λr fr=>match bU r with
   |none=>none
   |some d=>if tD d then jL c (e'::es) fr else some (.ok r,fr)⟩) (ev c e fr):=rfl
theorem i5 (e:Ex):qz c [e] fr=ex (k:=⟨λr fr=>match bU r with
  |none=>none
  |some _=>some (.ok r,fr)⟩) (ev c e fr):=rfl
theorem hO (e e':Ex) (es:List Ex):qz c (e::e'::es) fr=ex (k:=⟨λr fr=>match bU r with
   |none=>none
   |some d=>if tD d then some (.ok r,fr) else qz c (e'::es) fr⟩) (ev c e fr):=rfl
theorem i6 (e:Ex) (es:List Ex):dx c (e::es) fr=ex (k:=⟨λr fr=>match bO fr r with
   |none=>none
   |some d=>if tD d then dx c es fr else some (.ok false,fr)⟩) (ev c e fr):=rfl
theorem oo (t:fQ) (e:Ex):qv c (.asg t e) fr=if c.hd&&t.isTup then none else ex (k:=⟨λr fr=>match asgT c.pin fr t r with
  |some fr=>some (.ok .next,fr)
  |none=>none⟩) (ev c e fr):=rfl
theorem qu (p:Pl) (i e:Ex):qv c (.setI p i e) fr=ex (k:=⟨λr fr=>if (dT fr p).isSome then ex (k:=⟨λk fr=>match bU r,bU k,dT fr p with
  |some d,some k,some o=>(match ro o k d with
   |some o'=>some (.ok .next,mC fr p o')
   |none=>none)
  |_,_,_=>none⟩) (ev c i fr) else none⟩) (ev c e fr):=rfl
theorem t4 (p:Pl) (e:Ex):qv c (.app p e) fr=if AQ (dT fr p) then ex (k:=⟨λr fr=>match bU r,dT fr p with
  |some d,some (.list xs)=>if xs.length<Sz then some (.ok .next,mC fr p (.list (xs++[d]))) else none
  |_,_=>none⟩) (ev c e fr) else none:=rfl
theorem tZ (t:Ex) (a b:List St):qv c (.iff t a b) fr=ex (k:=⟨λx fr=>match bO fr x with
  |some d=>if tD d then du c a fr else du c b fr
  |none=>none⟩) (ev c t fr):=rfl
theorem tY (e:Ex):qv c (.ret e) fr=ex (k:=⟨λr fr=>match r with
  |.pl _=>none
  |r=>some (.ok (.ret r),fr)⟩) (ev c e fr):=rfl
noncomputable def dL (t:fQ) (body:List St) (cw:List Nat) (items:List D):cR ey:=
 yN (f:=⟨λd fr=>match asgT c.pin fr t (.fz d) with
     |none=>none
     |some fr=>du c body fr⟩) cw items fr
theorem t0 (t:fQ) (it:iU) (bN:List Ex) (body:List St) (cw:List Nat):qv c (.for_ t it bN body cw) fr=if c.hd then none else ex (k:=⟨λrs fr=>match fv rs with
  |none=>none
  |some ds=>match cj it ds with
   |none=>none
   |some items=>dL c fr t body cw items⟩) (lq c bN fr):=rfl
theorem cQ (t:fQ) (body:List St) (cw:List Nat):dL c fr t body cw []=some (.ok .next,clr fr cw):=rfl
theorem mL (t:fQ) (body:List St) (cw:List Nat) (d:D) (ds:List D):dL c fr t body cw (d::ds) =
  match asgT c.pin (clr fr cw) t (.fz d) with
  |none=>none
  |some fr=>ex (k:=⟨λk fr=>match k with
   |.next=>dL c fr t body cw ds
   |.ret r=>some (.ok (.ret r),fr)⟩) (du c body fr):=by
 unfold dL;refine(vo _ _ _ _ _).trans ?_;dsimp only;cases asgT c.pin (clr fr cw) t (.fz d) with
 |none=>rfl
 |some fr=>rfl
noncomputable def ms (t:Ex) (body:List St) (cw:List Nat) (n:Nat):cR ey:=
 Kn (t:=⟨λac fr=>aT (ev c t fr) λr fr=>match bO fr r with
   |some d=>some (.ok (tD d),fr)
   |none=>none⟩) (f:=⟨λac fr=>du c body fr⟩) cw n fr
theorem tW (t:Ex) (body:List St) (cw:List Nat):qv c (.whl t body cw) fr=if c.hd then none else ms c fr t body cw Sz:=rfl
theorem oM (t:Ex) (body:List St) (cw:List Nat) (n:Nat):ms c fr t body cw (n+1) =
  ex (k:=⟨λb fr=>match b with
   |true=>ex (k:=⟨λk fr=>match k with
    |.next=>ms c fr t body cw n
    |.ret r=>some (.ok (.ret r),fr)⟩) (du c body fr)
   |false=>some (.ok .next,fr)⟩) (aT (ev c t (clr fr cw)) λr fr=>match bO fr r with
   |some d=>some (.ok (tD d),fr)
   |none=>none):=rfl
theorem tX (i j:Nat) (n:Int):qv c (.rpl i j n) fr=match fr[i]?,fr[j]? with
  |some (.fz (.str x)),some (.fz (.int v))=>if v=n then(match pc x with
   |some d=>some (.ok (.ret (.fz d)),fr)
   |none=>none) else some (.ok .next,fr)
  |_,_=>none:=rfl
theorem mO (k:Str):qv c (.raise k) fr=if c.hd then none else some (.error k,fr):=rfl
noncomputable def Dn (v:Nat) (m:cR ey):cR ey:=match m with
 |some (.ok k,fr)=>some (.ok k,fr.set v .no)
 |_=>none
noncomputable def Dm (yes:List Str) (v:Nat) (jS:List St) (m:cR ey):cR ey:=match m with
 |none=>none
 |some (.ok k,fr)=>some (.ok k,fr)
 |some (.error e,fr)=>if yes.contains e=true/\ ¬c.pin.contains v=true then Dn v (du {c with hd:=true} jS (fr.set v (.exc e))) else none
theorem om (body:List St) (yes:List Str) (v:Nat) (jS:List St):qv c (.try_ body yes v jS) fr=if c.hd then none else Dm c yes v jS (du c body fr):=rfl
theorem td (yes:List Str) (v:Nat) (jS:List St) (k:ey):Dm c yes v jS (some (.ok k,fr))=some (.ok k,fr):=rfl
theorem oQ (yes:List Str) (v:Nat) (jS:List St) (e:Str):Dm c yes v jS (some (.error e,fr))=if yes.contains e=true/\ ¬c.pin.contains v=true then Dn v (du {c with hd:=true} jS (fr.set v (.exc e))) else none:=rfl
theorem Ae (v:Nat) (k:ey):Dn v (some (.ok k,fr))=some (.ok k,fr.set v .no):=rfl
theorem hM (s:St) (ss:List St):du c (s::ss) fr=ex (k:=⟨λk fr=>match k with
  |.next=>du c ss fr
  |.ret r=>some (.ok (.ret r),fr)⟩) (qv c s fr):=by rfl
end
noncomputable def EW (args:List Slot) (m:cR ey):Option (Except Str Rv×List Slot):=
 match m with
 |none=>none
 |some (.error e,fr)=>some (.error e,d5 args fr)
 |some (.ok .next,fr)=>some (.ok (.fz .none),d5 args fr)
 |some (.ok (.ret r),fr)=>some (.ok r,d5 args fr)
theorem xq (a b:Str):op2 .add (.str a) (.str b)=if a.cps.size+b.cps.size<=Sz then some (.fz (.str ⟨a.cps++b.cps⟩)) else none:=rfl
theorem Ej (a b:List D):op2 .add (.tuple a) (.tuple b)=if a.length+b.length<=Sz then some (.fz (.tuple (a++b))) else none:=rfl
theorem nR (a b:Int):op2 .fdiv (.int a) (.int b)=if b≠0/\b.natAbs<2 ^ 64 then some (.fz (.int (a.fdiv b))) else none:=rfl
theorem gH (a b:Int):op2 .mod (.int a) (.int b)=if b=0 then none else some (.fz (.int (a.fmod b))):=rfl
theorem Jt (a:D):dD .len [a]=(A8 a).map λ(n:Nat)=>.fz (.int n):=rfl
theorem qO (xs:List D):dD .all [.list xs]=(allB xs).map λb=>.fz (.bool b):=rfl
theorem cm (a b:Int):mP (.int a) (.int b)=some (a==b):=rfl
theorem E7 (a b:List D):mP (.list a) (.list b)=if qB (.list a) (.list b) then some (eqv (.list a) (.list b)) else none:=rfl
theorem Cd (xs:List D) (b:Bool):dD .count [.list xs,.bool b]=(gi xs).map λbs=>.fz (.int (bs.count b:Nat)):=rfl
theorem Ei (a:Str) (n:Int):op2 .mul (.str a) (.int n)=if -1000000000<=n/\n<=1000000000/\a.cps.size*n.toNat<=Sz then some (.fz (.str ⟨(rep n a.cps.toList).toArray⟩)) else none:=rfl
theorem e_strD (a b:Str):mP (.str a) (.str b)=some (decide (a=b)):=by
 show some (a.cps.toList==b.cps.toList)=_
 congr 1
 obtain⟨⟨l⟩⟩:=a;obtain⟨⟨k⟩⟩:=b
 by_cases q:l=k
 .subst q;simp
 .have h1:¬((⟨⟨l⟩⟩:Str)=⟨⟨k⟩⟩):=by intro e;apply q;injection e with e;injection e
  rw[Y1 h1];simpa using q
end Mv
namespace Mv
open PySem PySem.Builtin PySem.Builtin.Str PyProof.Rows
theorem dm {x y:Str} (h:x.cps.toList=y.cps.toList):x=y:=by
 obtain⟨⟨a⟩⟩:=x;obtain⟨⟨b⟩⟩:=y;cases h;rfl
theorem dR (x:Str) (i j:Nat):(strSub x i j).cps.toList=(x.cps.toList.take j).drop i:=by
 exact Er toList_extract (Er List.drop_take rfl)
set_option tactic.hygienic true in
theorem wM (x:Str) (lo hi:Option Int):Txt.slice x lo hi=⟨(cB x.cps.toList (lo.elim 0 (clipAt x.cps.size)) (hi.elim x.cps.size (clipAt x.cps.size))).toArray⟩:=by
 have e:strSliceIndices lo hi 1 x.length=(List.range (hi.elim x.cps.size (clipAt x.cps.size)-lo.elim 0 (clipAt x.cps.size))).map (lo.elim 0 (clipAt x.cps.size) + ·):=by
  rw[<- sliceRange_one];unfold strSliceIndices;cases lo<;>cases hi<;>simp only[elim,clipAt_cast,show(1:Int) > 0 by decide,if_true]<;>rfl
 unfold Txt.slice;refine Er e ?_;rw[pick_run]
 split
 .rename_i h
  simp only[Z7,beq_iff_eq,ZB,ZA]at h;have h2:hi.elim x.cps.size (clipAt x.cps.size)-lo.elim 0 (clipAt x.cps.size)=x.cps.size:=h.2;have h3:hi.elim x.cps.size (clipAt x.cps.size)<=x.cps.size:=by
   cases hi with
   |none=>exact Zg _
   |some i=>show clipAt _ i<=_;exact ofNat_le.mp (by rw[clipAt_cast];exact Int.max_le.mpr ⟨ZS _,Int.min_le_right _ _⟩)
  apply dm;show _=cB _ _ _
  unfold cB;refine aM λG g=>?_
  by_cases z:x.cps.size=0
  .refine g ?_
   have:x.cps.toList=[]:=by rw[<- List.length_eq_zero_iff];exact Er Z8 z
   refine Er this ?_;simp
  .refine g ?_
   have l0:lo.elim 0 (clipAt x.cps.size)=0:=Nat.eq_zero_of_not_pos λp=>absurd (Ze (Nat.sub_lt (Nat.pos_of_ne_zero λe=>z (by refine Er h2.symm ?_;refine Er e ?_;rw[Nat.zero_sub])) p) h3) (by refine Er h2 ?_;exact lt_irrefl _)
   rw[l0,Y9]at h2;refine Er l0 ?_;rw[Y9,h2,ZI,take_of_length_le (by refine Er Z8 ?_;exact Zg _)]
 .rfl
theorem zD (x:Str) (c i:Nat):subAt x ⟨#[c]⟩ i=decide (x.cps.toList[i]? = some c):=by
 unfold subAt;show(x.cps.extract i (i+1) == #[c])=_
 have:x.cps.extract i (i+1) = #[c]↔x.cps.toList[i]? = some c:=by
  rw[<- toList_inj];refine Er toList_extract ?_;show(x.cps.toList.drop i).take (i+1-i)=[c]↔_
  rw[Nat.add_sub_cancel_left];refine Er List.take_one ?_;refine Er (List.head?_drop) ?_;cases x.cps.toList[i]?<;>simp
 by_cases q:x.cps.toList[i]? = some c
 .rw[Y0 q,this.mpr q,beq_self_eq_true]
 .rw[Y1 q,beq_eq_false_iff_ne];exact λz=>q (this.mp z)
theorem AY (x:Str) (c n:Nat) (hn:x.length=n):∀(k a:Nat) (st:Array Nat×Nat),st.2<=a->st.1.size<=a->a+k<=n+1->
  (forIn (range' a k) st (StrLaws.occBody x ⟨#[c]⟩ n (n+1))).run.fst.toList=st.1.toList++(range' a k).filter λi=>decide (x.cps.toList[i]? = some c):=by
 intro k a st h1 h2 h3
 induction k generalizing a st h1 h2 with
 |zero=>show st.1.toList=st.1.toList++[];rw[ZL]
 |succ k ih=>
  refine Er List.range'_succ ?_;rw[forIn_cons];refine Er filter_cons ?_;unfold StrLaws.occBody;rw[zD]
  by_cases q:x.cps.toList[a]? = some c
  .have ha:a<n:=by
    have:=(List.getElem?_eq_some_iff.mp q).1;rw[Z8]at this;exact Er hn.symm this
   refine Er (YV ⟨⟨⟨by exact(Ln [st.fst.size,n,a] (.w (.p 1 .x) (.p 1 .y)) [Gl .x .z,Gl (.p 1 .z) .y] rfl h2 ha),h1⟩,by show a+1<=n;exact ha⟩,Y0 q⟩) (Er (Y0 q) (Er (YV rfl) ?_));refine(ih (a+1) (st.1.push a,a+1) (Zg _) (by rw[Array.size_push];exact(L1 [st.fst.size,a] (.p 1 .x) (.p 1 .y) .x .y rfl h2)) (L1 [a,k,n] (.a (.p 1 .x) .y) (.p 1 .z) (.a .x (.p 1 .y)) (.p 1 .z) rfl h3)).trans ?_;refine Er Array.toList_push ?_;rw[ZM];rfl
  .exact Er (YW (λz=>by have z:=(Y1 q)▸z;cases z.2)) (Er (Y1 q) (Er (YW Z6) (ih (a+1) st (L1 [st.2,a] .x (.p 1 .y) .x .y rfl h1) (L1 [st.fst.size,a] .x (.p 1 .y) .x .y rfl h2) (L1 [a,k,n] (.a (.p 1 .x) .y) (.p 1 .z) (.a .x (.p 1 .y)) (.p 1 .z) rfl h3))))
theorem w9 (x:Str) (w:Nat):∀(a:Nat) (zp:List Nat),a<x.cps.size->(∀i∈zp,a+1<=i)-> ∃p r c,StrLaws.partsFrom x w (a+1) zp=p::r/\x.cps.toList[a]? = some c/\StrLaws.partsFrom x w a zp=⟨(c::p.cps.toList).toArray⟩::r:=by
 intro a zp ha hc;have hl:a<x.cps.toList.length:=by exact Er Z8 ha
 have key:∀j,a+1<=j->strSub x a j=⟨(x.cps.toList[a]::(strSub x (a+1) j).cps.toList).toArray⟩:=λj hj=>by
  apply dm;rw[dR];rw[dR];have df:a<(x.cps.toList.take j).length:=by exact Er Zw (Y4 (Nat.le_total j (x.cps.toList.length)) (λkN=>(Ln [a,Min.min j x.cps.toList.length,j] (.w (.p 1 .x) .y) [Gl (.p 1 .x) .z,Gf .y .z] rfl hj (Zd (a:=j) (b:=x.cps.toList.length) kN))) (λkN=>(Ln [a,Min.min j x.cps.toList.length,x.cps.toList.length] (.w (.p 1 .x) .y) [Gl (.p 1 .x) .z,Gf .y .z] rfl hl (Nat.min_eq_right (a:=j) (b:=x.cps.toList.length) kN))))
  exact Er (ZJ df) (Er List.getElem_take rfl)
 cases zp with
 |nil=>exact⟨_,_,_,rfl,ZG hl,by show [strSub x a x.length]=_;exact Er (key x.length ha) rfl⟩
 |cons i r=>exact⟨_,_,_,rfl,ZG hl,by show strSub x a i::_=_;exact Er (key i (hc i Zn)) rfl⟩
theorem uS (x:Str) (c:Nat):∀(k a:Nat),a+k=x.cps.size->StrLaws.partsFrom x 1 a ((range' a (k+1)).filter λi=>decide (x.cps.toList[i]? = some c))=(ak c (x.cps.toList.drop a)).map λl=>(⟨l.toArray⟩:Str):=by
 intro k a h
 induction k generalizing a with
 |zero=>
  have e:x.cps.toList[a]? = none:=List.getElem?_eq_none (by refine Er Z8 ?_;exact(Ln [x.cps.size,a] (.w .x .y) [Gf (.p 0 .y) .x] rfl h));refine Er (List.drop_of_length_le (by refine Er Z8 ?_;exact(Ln [x.cps.size,a] (.w .x .y) [Gf (.p 0 .y) .x] rfl h))) ?_;refine Er filter_cons (Er e ?_);show [strSub x a x.length]=_
  congr 1
  apply dm;rw[dR];exact Er (List.drop_of_length_le (by refine Er Zw (Er Z8 ?_);exact(Ln [Min.min x.length x.cps.size,a,x.cps.size] (.w .x .y) [Gf (.p 0 .y) .z,Gl .x .z] rfl h (Zc x.length x.cps.size)))) rfl
 |succ k IH=>
  have hl:a<x.cps.toList.length:=by exact Er Z8 (Ln [a,x.cps.size,k] (.w (.p 1 .x) .y) [Ge (.a .x (.p 1 .z)) .y] rfl h)
  have ih:=IH (a+1) (Le [a,k,x.cps.size] (.e (.a (.p 1 .x) .y) .z) [Gp (.a .x (.p 1 .y)) .z] rfl h);refine Er List.range'_succ (Er filter_cons (Er (ZG hl) (Er (ZJ hl) ?_)))
  by_cases q:x.cps.toList[a]=c
  .refine Er (Y0 (Er q rfl)) (Er (YV rfl) ?_)
   show strSub x a a::StrLaws.partsFrom x 1 (a+1) _=_
   refine Er ih ?_;show _=(if x.cps.toList[a]=c then []::ak c (x.cps.toList.drop (a+1)) else _).map _
   refine Er (YV q) (Er Zt ?_)
   congr 1
   apply dm;rw[dR];exact Er (List.drop_of_length_le (by refine Er Zw ?_;exact(Ln [Min.min a x.cps.toList.length,a] (.w .x .y) [Ge .x .y] rfl (Zd (a:=a) (b:=x.cps.toList.length) (L1 [a,x.cps.toList.length] .x .y (.p 1 .x) .y rfl hl))))) rfl
  .refine Er (Y1 (λz=>q (Y5 z))) (Er (YW Z6) ?_)
   refine jm (w9 x 1 a ((range' (a+1) (k+1)).filter λi=>decide (x.cps.toList[i]? = some c)) (Ln [a,x.cps.size,k] (.w (.p 1 .x) .y) [Ge (.a .x (.p 1 .z)) .y] rfl h) (λi hi=>(List.mem_range'_1.mp (mem_filter.mp hi).1).1)) λp r d Q=>?_;have e1:=Q.1;have e2:=Q.2.1;have e3:=Q.2.2
   rw[ZG hl]at e2;refine Er e3 ?_;have ih:=e1▸ih;show _=(if x.cps.toList[a]=c then _ else match ak c (x.cps.toList.drop (a+1)) with|[]=>[[x.cps.toList[a]]]|p::ps=>(x.cps.toList[a]::p)::ps).map _
   refine Er (YW q) ?_;cases hs:ak c (x.cps.toList.drop (a+1)) with
   |nil=>have ih:=hs▸ih;cases ih
   |cons p' ps=>
    rw[hs,Zt]at ih;injection ih with i1 i2
    refine Er i1 (Er i2 (Er (Y5 e2).symm ?_));rfl
theorem x0 (x:Str):1<=PySem.Builtin.Str.strKind x:=by unfold PySem.Builtin.Str.strKind;split<;>(try split)<;>decide
set_option tactic.hygienic true in
theorem wL (x:Str) (c:Nat) (hc:c<128):Txt.split x ⟨#[c]⟩=(ak c x.cps.toList).map λl=>(⟨l.toArray⟩:Str):=by
 have ho:occurrences x ⟨#[c]⟩ 0 x.length (x.length+1)=(range' 0 (x.cps.size+1)).filter λi=>decide (x.cps.toList[i]? = some c):=by
  rw[StrLaws.occ_eq];exact AY x c x.length rfl (x.length+1) 0 (#[],0) (Zg _) (Zg _) (L0 [x.length] (.a (.c 0) (.p 1 .x)) (.p 1 .x) rfl)
 have hp:=uS x c x.cps.size 0 (Nat.zero_add _);rw[ZI]at hp;have hk:¬PySem.Builtin.Str.strKind x<PySem.Builtin.Str.strKind ⟨#[c]⟩:=by
  have:PySem.Builtin.Str.strKind ⟨#[c]⟩=1:=by unfold PySem.Builtin.Str.strKind;rw[YV];simp;exact(L1 [c] (.p 1 .x) (.c 256) (.p 1 .x) (.c 128) rfl hc)
  have:=x0 x;exact(λrN=>(Lf [Str.strKind {cps:=#[c]},Str.strKind x] [Ge .x (.c 1),Gl (.c 1) .y,Gl (.p 1 .y) .x] rfl ‹Str.strKind {cps:=#[c]}=(1:Nat)› this rN))
 unfold Txt.split
 by_cases z:x.length<1
 .refine Er (YV (by refine Er (show decide (x.length<(⟨#[c]⟩:Str).length)=true from Y0 z) ?_;rfl)) ?_
  have:x.cps.toList=[]:=by rw[<- List.length_eq_zero_iff];refine Er Z8 ?_;show x.length=0;exact(Le [x.length] (.e .x (.c 0)) [(1,0,.w (.p 1 .x) (.c 1))] rfl z)
  refine Er this ?_
  congr 1;apply dm;exact Er this rfl
 .refine Er (YW (by refine Er (show decide (x.length<(⟨#[c]⟩:Str).length)=false from Y1 z) (Er (Y1 hk) ?_);decide)) ?_
  split
  .rename_i he
   rw[ho]at he;rw[List.isEmpty_iff.mp he]at hp;refine Er hp.symm ?_;show [x]=[strSub x 0 x.length]
   rw[StrLaws.sub_whole]
  .refine Er ho ?_;rw[StrLaws.partsBetween_eq];exact hp
theorem eW (y:List Nat) (hy:y≠ []):∀l:List Nat,(cz y l=none/\ ∀i,y.isPrefixOf (l.drop i)=false)\/ ∃i,cz y l=some (l.take i,l.drop (i+y.length))/\y.isPrefixOf (l.drop i)=true/\ ∀k,k<i->y.isPrefixOf (l.drop k)=false:=by
 intro r
 induction r with
 |nil=>
  have e:y.isPrefixOf []=false:=by cases y with|nil=>exact absurd rfl hy|cons=>rfl
  exact .inl ⟨by unfold cz;refine Er e ?_;rfl,λi=>by refine Er List.drop_nil ?_;exact e⟩
 |cons x r ih=>
  unfold cz;cases e:y.isPrefixOf (x::r) with
  |true=>exact .inr ⟨0,by refine Er (YV rfl) ?_;rw[Nat.zero_add];exact Er take_zero rfl,e,λk hk=>absurd hk (not_lt_zero _)⟩
  |false=>
   refine Er (YW Z6) ?_;refine aM λG g=>?_
   rcases ih with⟨h1,h2⟩|⟨i,h1,h2,h3⟩
   .refine g ?_
    refine .inl ⟨by refine Er h1 ?_;rfl,λi=>?_⟩;cases i with
    |zero=>exact e
    |succ i=>exact h2 i
   .refine g ?_
    refine .inr ⟨i+1,by refine Er h1 (Er (show i+1+y.length=(i+y.length)+1 by exact(Le [i,y.length] (.e (.a (.p 1 .x) .y) (.p 1 (.a .x .y))) [] rfl)) ?_);rfl,h2,λk hk=>?_⟩;cases k with
    |zero=>exact e
    |succ k=>exact h3 k (lt_of_succ_lt_succ hk)
theorem iQ (x y:Str) (hy:y.cps.toList≠ []) (i:Nat):StrLaws.At x y x.length i↔y.cps.toList.isPrefixOf (x.cps.toList.drop i)=true:=by
 have e:subAt x y i=true↔(x.cps.toList.drop i).take y.cps.toList.length=y.cps.toList:=by
  unfold subAt;rw[beq_iff_eq,<- toList_inj];refine Er toList_extract ?_;show(x.cps.toList.drop i).take (i+y.cps.size-i)=_↔_
  rw[Nat.add_sub_cancel_left,Z8]
 have hp:=length_pos_iff.mpr hy;have hx:x.length=x.cps.toList.length:=length_toList.symm;have hl:y.length=y.cps.toList.length:=length_toList.symm;rw[List.isPrefixOf_iff_prefix,List.prefix_iff_eq_take];unfold StrLaws.At;rw[e]
 constructor
 .exact λh=>h.2.symm
 .intro h
  refine⟨?_,h.symm⟩;have:=Y2 length h;rw[Zw,ZC]at this;have h2:y.cps.toList.length<=x.cps.toList.length-i:=Zf (Nat.le_of_eq this) (Zc _ _);rw[hx,hl];exact Nat.add_le_of_le_sub' (Nat.le_of_lt (Nat.lt_of_sub_pos (Ze hp h2))) h2
theorem AO (x y:Str) (hy:y.cps.toList≠ []):Txt.partition x y=(match cz y.cps.toList x.cps.toList with
  |some (a,b)=>(⟨a.toArray⟩,y,⟨b.toArray⟩)
  |none=>(x,⟨#[]⟩,⟨#[]⟩)):=by
 unfold Txt.partition;refine aM λG1 g4=>?_
 rcases StrLaws.occ_head x y 1 (Zg _) with⟨h1,h2⟩|⟨i,r,h1,h2,h3⟩
 .refine g4 ?_
  refine Er h1 ?_
  rcases eW _ hy x.cps.toList with⟨g1,g2⟩|⟨j,g1,g2,g3⟩
  .refine Er g1 ?_;rfl
  .exact absurd ((iQ x y hy j).mpr g2) (h2 j)
 .refine g4 ?_
  refine Er h1 ?_;refine aM λG g=>?_
  rcases eW _ hy x.cps.toList with⟨g1,g2⟩|⟨j,g1,g2,g3⟩
  .refine g ?_
   have:=(iQ x y hy i).mp h2;have this:=(g2 i)▸this;cases this
  .refine g ?_
   have qY:i=j:=by
    rcases Nat.lt_trichotomy i j with q|q|q
    .have:=(iQ x y hy i).mp h2;have this:=(g3 i q)▸this;cases this
    .exact q
    .exact absurd ((iQ x y hy j).mpr g2) (h3 j q)
   subst qY;refine Er g1 ?_;show(strSub x 0 i,y,strSub x (i+y.length) x.length)=_
   congr 1
   .apply dm;rw[dR];rfl
   .congr 1
    apply dm;rw[dR];refine Er (take_of_length_le (by refine Er Z8 ?_;exact Zg _)) ?_;show x.cps.toList.drop (i+y.cps.size)=x.cps.toList.drop (i+y.cps.toList.length)
    exact Er Z8 rfl
theorem Bh (c:Str):∀ks:List Str,(Str.join c ks).cps.toList=au c.cps.toList (ks.map λk=>k.cps.toList):=by
 intro x1
 induction x1 with
 |nil=>exact rfl
 |cons x x2 ih=>
  cases x2 with
  |nil=>exact rfl
  |cons y r=>
    show(x.cps++c.cps++(Str.join c (y::r)).cps).toList=x.cps.toList++c.cps.toList++au c.cps.toList ((y::r).map λk=>k.cps.toList)
    exact Er ih.symm (Er toList_append (Er toList_append rfl))
theorem gF (l:List Nat):PyData.strOk ⟨l.toArray⟩=true ↔ ∀c∈l,c<0x110000:=by
 unfold PyData.strOk;simp
theorem gE {x:Str} (h:PyData.strOk x=true):∀c∈x.cps.toList,c<0x110000:=by
 obtain⟨⟨l⟩⟩:=x;exact(gF l).mp h
theorem nQ {l m:List Nat} (h:∀c∈m,c<0x110000) (hs:∀c∈l,c∈m):PyData.strOk ⟨l.toArray⟩=true:=(gF l).mpr λc hc=>h c (hs c hc)
theorem BS {l:List Nat} {a b c:Nat} (h:c∈cB l a b):c∈l:=List.mem_of_mem_drop (mem_of_mem_take h)
set_option tactic.hygienic true in
theorem uB (c:Nat):∀(l:List Nat) (p:List Nat),p∈ak c l->p.length<=l.length/\ ∀d∈p,d∈l:=by
 intro r p h
 induction r generalizing p with
 |nil=>exact Er (List.mem_singleton.mp h) (⟨Zg _,λd hd=>hd⟩)
 |cons x r ih=>
  have up:∀q∈ak c r,q.length<=(x::r).length/\ ∀d∈q,d∈x::r:=λq hq=>⟨Nat.le_succ_of_le (ih q hq).1,λd hd=>Zo _ ((ih q hq).2 d hd)⟩
  unfold ak at h
  split at h
  .rcases mem_cons.mp h with rfl|h
   .exact⟨Y8 _,λd hd=>by cases hd⟩
   .exact up p h
  .split at h
   .refine Er (List.mem_singleton.mp h) ?_;exact⟨succ_le_succ (Y8 _),λd hd=>by refine Er (List.mem_singleton.mp hd) ?_;exact Zn⟩
   .rename_i q qs e
    rcases mem_cons.mp h with rfl|h
    .have:=(ih) q (by refine Er e ?_;exact Zn)
     refine⟨succ_le_succ this.1,λd hd=>?_⟩
     rcases mem_cons.mp hd with rfl|hd
     .exact Zn
     .exact Zo _ (this.2 d hd)
    .exact up p (by refine Er e ?_;exact Zo _ h)
set_option tactic.hygienic true in
theorem split_len (c:Nat):∀l:List Nat,(ak c l).length<=l.length+1:=by
 intro r
 induction r with
 |nil=>exact Zg _
 |cons x r IH=>
  have ih:=IH;unfold ak
  split
  .exact Er ZD (Er ZD (L1 [(ak c r).length,r.length] (.p 1 .x) (.p 1 (.p 1 .y)) .x (.p 1 .y) rfl ih))
  .split
   .refine Er ZD (Er ZD ?_);show 1<=_;exact(L0 [r.length] (.c 1) (.p 1 (.p 1 .x)) rfl)
   .rename_i e;rw[e]at ih;exact Nat.le_succ_of_le ih
theorem yh {c:List Nat}:∀ {ls:List (List Nat)} {d:Nat},d∈au c ls->d∈c\/ ∃x∈ls,d∈x:=by
 intro x1 d h
 induction x1 generalizing d with
 |nil=>cases h
 |cons x x2 ih=>
  cases x2 with
  |nil=>exact .inr ⟨x,Zn,h⟩
  |cons y r=>
    have h:=h
    rcases mem_append.mp h with h|h
    .rcases mem_append.mp h with h|h
     .exact .inr ⟨x,Zn,h⟩
     .exact .inl h
    .rcases ih h with h|⟨z,hz,h⟩
     .exact .inl h
     .exact .inr ⟨z,Zo _ hz,h⟩
theorem B1 (c:Char):c.toNat<0x110000:=by
 have h:=c.valid
 rcases h with h|h<;>(first|exact(L1 [c.val.toNat] (.p 1 .x) (.c 1114112) (.p 1 .x) (.c 55296) rfl h)|exact(h.2))
theorem wI (i:Int):∀c∈cK i,c<0x110000:=by
 have h:∀c∈dI i.natAbs,c<0x110000:=λc hc=>by
  obtain⟨ch,_,rfl⟩:=mem_map.mp hc;exact B1 ch
 intro c hc;unfold cK at hc
 split at hc
 .rcases mem_cons.mp hc with rfl|hc
  .decide
  .exact h c hc
 .exact h c hc
theorem wP (i:Int):(Str.ofString (toString i)).cps.toList=cK i:=by
 cases i with
 |ofNat n=>exact PySem.W.KIN.signs_num n
 |negSucc n=>
  rw [signs_ofString];have e2:cK (Int.negSucc n)=45::dI (n+1):=YV (Int.negSucc_lt_zero n);refine Er (rfl:toString (Int.negSucc n) = "-" ++ Nat.repr (n + 1)) (Er e2 (Er String.toList_append (Er Nat.toList_repr ?_))); rfl
set_option tactic.hygienic true in
theorem qG:∀(l:List Nat) (a n:Nat),ek a l=some n->(∀c∈l,48<=c/\c<=57)/\l.foldl (λaE c=>aE*10+(c-48)) a=n:=by
 intro l a n h
 induction l generalizing a n with
 |nil=>exact⟨λc hc=>(nomatch hc),Y5 h⟩
 |cons c l ih=>
  unfold ek at h
  split at h
  .rename_i q
   have:=ih _ n h;exact⟨λd hd=>by
    rcases mem_cons.mp hd with rfl|hd
    .exact q
    .exact this.1 d hd,this.2⟩
  .exact ah h
set_option tactic.hygienic true in
theorem ym {x:Str} {i:Int} (h:nZ x.cps.toList=some i) (hl:x.cps.size<=640):PySem.intText? x=some i:=by
 cases e:x.cps.toList with
 |nil=>rw[e]at h;exact ah h
 |cons c r=>
  rw[e]at h
  by_cases q:c=45
  .subst q
   have h:(if r.isEmpty then none else(ek 0 r).map λ(n:Nat)=>-(n:Int))=some i:=h
   split at h
   .exact ah h
   .rename_i hr
    obtain⟨n,hn,rfl⟩:=Z9 h;have:=qG r 0 n hn;have ip:r≠ []:=λz=>hr (by refine Er z ?_;rfl)
    exact(PySem.intText_neg e this.1 ip (Zf hl (by decide))).trans (Er (show PySem.NumText.digitsVal r=n from this.2) rfl)
  .have h:(ek 0 (c::r)).map (λ(n:Nat)=>(n:Int))=some i:=(YW q).symm.trans h
   obtain⟨n,hn,rfl⟩:=Z9 h;have:=qG _ 0 n hn;refine(PySem.intText_digits (by refine Er e ?_;exact this.1) (by refine Er e ?_;exact λz=>by cases z) (Zf hl (by decide))).trans ?_;exact Er e (Er (show PySem.NumText.digitsVal (c::r)=n from this.2) rfl)
end Mv
namespace Mv
open PySem
structure Q (W:Type) where
 bad:W
 b:Option Bool->(Bool->W)->W
 t:Bool->(Bool->W)->W
 v:Option Rv->(Rv->W)->W
 d:Option D->(D->W)->W
 l:Option (List D)->(List D->W)->W
 lp:cR ey->W->(Except Str ey->Fm->W)->W
 cp:cR (List D)->W->(Except Str (List D)->Fm->W)->W
 c:Option (Except Str Rv×List Slot)->(Except Str Rv->List Slot->W)->W
section
variable {W:Type}
noncomputable def up {α β:Type} (k:Except Str β->Fm->W) (f:α->Fm->W):Except Str α->Fm->W
 |.error e,fr=>k (.error e) fr
 |.ok a,fr=>f a fr
noncomputable def eX {α:Type} (q:Q W) (x:Option α) (f:α->W):W:=match x with
 |none=>q.bad
 |some a=>f a
noncomputable def jU (b:Bool) (x y:W):W:=match b with
 |true=>x
 |false=>y
noncomputable def lR:Fm->(Fm->W)->W
 |[],k=>k []
 |s::fr,k=>lR fr λfr=>k (s::fr)
noncomputable def GZ (q:Q W) (r:Rv) (x:W):W:=match r with
 |.pl _=>q.bad
 |_=>x
noncomputable def GG (q:Q W) (s:Option Slot) (fr:Fm) (i:Nat) (k:Except Str Rv->Fm->W):W:=match s with
 |some (.fz d)=>k (.ok (.fz d)) fr
 |some (.own d)=>lR (fr.set i (.fz d)) λfr=>k (.ok (.fz d)) fr
 |_=>q.bad
noncomputable def D0 (q:Q W) (a b:Option Slot) (n:Int) (fr:Fm) (k:Except Str ey->Fm->W):W:=match a,b with
 |some (.fz (.str x)),some (.fz (.int v))=>q.t (decide (v=n)) λt=>jU t (q.d (pc x) λd=>k (.ok (.ret (.fz d))) fr) (k (.ok .next) fr)
 |_,_=>q.bad
noncomputable def iB (k:Except Str (List D)->Fm->W) (r:Option D):Except Str (List D)->Fm->W:=up k λrs fr=>match r with
 |none=>k (.ok rs) fr
 |some x=>k (.ok (x::rs)) fr
noncomputable def zv (q:Q W) (one:D->Fm->(Except Str (Option D)->Fm->W)->W) (x:List D->Fm->cR (List D)) (cl:List Nat):List D->Fm->(Except Str (List D)->Fm->W)->W
 |[],fr,k=>k (.ok []) (clr fr cl)
 |d::ds,fr,k=>lR (clr fr cl) λfr=>one d fr (up k λr fr=>q.cp (x ds fr) (zv q one x cl ds fr (iB k r)) (iB k r))
noncomputable def ES (q:Q W) (x:Fm->cR ey) (u:Fm->W) (k:Except Str ey->Fm->W):Except Str ey->Fm->W
 |.error e,fr=>k (.error e) fr
 |.ok .next,fr=>q.lp (x fr) (u fr) k
 |.ok (.ret r),fr=>k (.ok (.ret r)) fr
noncomputable def ER (q:Q W) (one:D->Fm->(Except Str ey->Fm->W)->W) (x:List D->Fm->cR ey) (cl:List Nat):List D->Fm->(Except Str ey->Fm->W)->W
 |[],fr,k=>k (.ok .next) (clr fr cl)
 |d::ds,fr,k=>lR (clr fr cl) λfr=>one d fr (ES q (x ds) (λfr=>ER q one x cl ds fr k) k)
mutual
noncomputable def wp (q:Q W) (c:dj):Ex->Fm->(Except Str Rv->Fm->W)->W
 |.lit d,fr,k=>k (.ok (.fz d)) fr
 |.gl i,fr,k=>eX q c.glob[i]? λd=>k (.ok (.fz d)) fr
 |.var i,fr,k=>GG q fr[i]? fr i k
 |.pl p,fr,k=>jU (kK fr p) (k (.ok (.pl p)) fr) q.bad
 |.tup es,fr,k=>Ci q c es fr (up k λrs fr=>eX q (fv rs) λds=>k (.ok (.fz (.tuple ds))) fr)
 |.list es,fr,k=>Ci q c es fr (up k λrs fr=>eX q (fv rs) λds=>k (.ok (.own (.list ds))) fr)
 |.op2 o a b,fr,k=>wp q c a fr (up k λx fr=>wp q c b fr (up k λy fr=>eX q (bO fr x) λd=>eX q (bO fr y) λe=>q.v (op2 o d e) λr=>GZ q r (k (.ok r) fr)))
 |.neg a,fr,k=>wp q c a fr (up k λx fr=>eX q (bU x) λd=>eX q (xy d) λe=>k (.ok (.fz e)) fr)
 |.not a,fr,k=>wp q c a fr (up k λx fr=>eX q (bO fr x) λd=>q.t (tD d) λb=>k (.ok (.fz (.bool (!b)))) fr)
 |.cmp o a b,fr,k=>wp q c a fr (up k λx fr=>wp q c b fr (up k λy fr=>eX q (bO fr x) λd=>eX q (bO fr y) λe=>q.b (ag o d e) λb=>k (.ok (.fz (.bool b))) fr))
 |.cmp2 o p a b e,fr,k=>wp q c a fr (up k λx fr=>wp q c b fr (up k λy fr=>eX q (bU x) λd=>eX q (bU y) λd'=>q.b (ag o d d') λt=>
   q.t t λt=>jU t (wp q c e fr (up k λz fr=>eX q (bU z) λGw=>q.b (ag p d' Gw) λb=>k (.ok (.fz (.bool b))) fr)) (k (.ok (.fz (.bool false))) fr)))
 |.and es,fr,k=>Kl q c es fr k
 |.or es,fr,k=>Kk q c es fr k
 |.ite t a b,fr,k=>wp q c t fr (up k λx fr=>eX q (bO fr x) λd=>q.t (tD d) λt=>jU t
   (wp q c a fr (up k λr fr=>eX q (bU r) λac=>k (.ok r) fr)) (wp q c b fr (up k λr fr=>eX q (bU r) λac=>k (.ok r) fr)))
 |.idx a i,fr,k=>wp q c a fr (up k λx fr=>wp q c i fr (up k λy fr=>eX q (bO fr x) λd=>eX q (bU y) λe=>q.d (fU d e) λr=>k (.ok (.fz r)) fr))
 |.slc a lo hi,fr,k=>wp q c a fr (up k λx fr=>wp q c lo fr (up k λy fr=>wp q c hi fr (up k λz fr=>
   eX q (bO fr x) λd=>eX q (bU y) λl=>eX q (bU z) λh=>q.v (eS d l h) λr=>GZ q r (k (.ok r) fr))))
 |.call f args,fr,k=>Ci q c args fr (up k λrs fr=>eX q (cC fr rs) λss=>jU (decide (c8 rs).Nodup) (q.c (c.call c.hd f ss) λr bW=>lR (dA fr rs ss bW) λfr=>
   up k (λr fr=>eX q (bU r) λac=>k (.ok r) fr) r fr) q.bad)
 |.bi b args,fr,k=>jU (c.hd&&b.loops) q.bad (Ci q c args fr (up k λrs fr=>eX q (iI fr rs) λds=>q.v (dD b ds) λr=>GZ q r (k (.ok r) fr)))
 |.comp cb t it bN aq,fr,k=>jU c.hd q.bad (Ci q c bN fr (up k λrs fr=>eX q (fv rs) λds=>q.l (cj it ds) λitems=>
   let k':Except Str (List D)->Fm->W:=λo fr=>match o with
    |.error e=>lR (clr fr (aL t)) λfr=>k (.error e) fr
    |.ok ds=>k (.ok (.own (.list ds))) fr
   q.cp (aZ c fr cb t aq items) (zv q (λd fr k=>eX q (asgT c.pin fr t (.fz d)) λfr=>lR fr λfr=>F8 q c aq fr (up k λb fr=>jU b (wp q c cb fr (up k λr fr=>eX q (bU r) λx=>k (.ok (some x)) fr)) (k (.ok none) fr)))
    (λds fr=>aZ c fr cb t aq ds) (aL t) items fr k') k'))
 |.isx _ _ _,_,_=>q.bad
noncomputable def Ci (q:Q W) (c:dj):List Ex->Fm->(Except Str (List Rv)->Fm->W)->W
 |[],fr,k=>k (.ok []) fr
 |e::es,fr,k=>wp q c e fr (up k λr fr=>Ci q c es fr (up k λrs fr=>k (.ok (r::rs)) fr))
noncomputable def Kl (q:Q W) (c:dj):List Ex->Fm->(Except Str Rv->Fm->W)->W
 |[],_,_=>q.bad
 |e::es,fr,k=>wp q c e fr (up k λr fr=>eX q (bU r) λd=>match es with
   |[]=>k (.ok r) fr
   |_::_=>q.t (tD d) λb=>jU b (Kl q c es fr k) (k (.ok r) fr))
noncomputable def Kk (q:Q W) (c:dj):List Ex->Fm->(Except Str Rv->Fm->W)->W
 |[],_,_=>q.bad
 |e::es,fr,k=>wp q c e fr (up k λr fr=>eX q (bU r) λd=>match es with
   |[]=>k (.ok r) fr
   |_::_=>q.t (tD d) λb=>jU b (k (.ok r) fr) (Kk q c es fr k))
noncomputable def F8 (q:Q W) (c:dj):List Ex->Fm->(Except Str Bool->Fm->W)->W
 |[],fr,k=>k (.ok true) fr
 |e::es,fr,k=>wp q c e fr (up k λr fr=>eX q (bO fr r) λd=>q.t (tD d) λb=>jU b (F8 q c es fr k) (k (.ok false) fr))
end
mutual
noncomputable def wpS (q:Q W) (c:dj):St->Fm->(Except Str ey->Fm->W)->W
 |.asg t e,fr,k=>jU (c.hd&&t.isTup) q.bad (wp q c e fr (up k λr fr=>eX q (asgT c.pin fr t r) λfr=>lR fr λfr=>k (.ok .next) fr))
 |.setI p i e,fr,k=>wp q c e fr (up k λr fr=>jU (dT fr p).isSome (wp q c i fr (up k λx fr=>eX q (bU r) λd=>eX q (bU x) λx=>eX q (dT fr p) λo=>
   q.d (ro o x d) λo'=>lR (mC fr p o') λfr=>k (.ok .next) fr)) q.bad)
 |.app p e,fr,k=>jU (AQ (dT fr p)) (wp q c e fr (up k λr fr=>eX q (bU r) λd=>match dT fr p with
  |some (.list xs)=>q.t (decide (xs.length<Sz)) λb=>jU b (lR (mC fr p (.list (xs++[d]))) λfr=>k (.ok .next) fr) q.bad
  |_=>q.bad)) q.bad
 |.iff t a b,fr,k=>wp q c t fr (up k λx fr=>eX q (bO fr x) λd=>q.t (tD d) λt=>jU t (ki q c a fr k) (ki q c b fr k))
 |.ret e,fr,k=>wp q c e fr (up k λr fr=>GZ q r (k (.ok (.ret r)) fr))
 |.for_ t it bN body cw,fr,k=>jU c.hd q.bad (Ci q c bN fr (up k λrs fr=>eX q (fv rs) λds=>q.l (cj it ds) λitems=>
   q.lp (dL c fr t body cw items) (ER q (λd fr k=>eX q (asgT c.pin fr t (.fz d)) λfr=>lR fr λfr=>ki q c body fr k) (λds fr=>dL c fr t body cw ds) cw items fr k) k))
 |.whl t body cw,fr,k=>jU c.hd q.bad (q.lp (ms c fr t body cw Sz) q.bad k)
 |.rpl i j n,fr,k=>D0 q fr[i]? fr[j]? n fr k
 |.raise x,fr,k=>jU c.hd q.bad (k (.error x) fr)
 |.try_ _ _ _ _,_,_=>q.bad
 |.no,_,_=>q.bad
noncomputable def ki (q:Q W) (c:dj):List St->Fm->(Except Str ey->Fm->W)->W
 |[],fr,k=>k (.ok .next) fr
 |s::ss,fr,k=>wpS q c s fr (up k λr fr=>match r with
  |.next=>ki q c ss fr k
  |.ret r=>k (.ok (.ret r)) fr)
end
noncomputable def Mq (q:Q W) (c:dj) (t:Ex) (body:List St) (cw:List Nat) (n:Nat) (fr:Fm) (k:Except Str ey->Fm->W):W:=
 lR (clr fr cw) λfr=>wp q c t fr λo fr=>match o with
  |.error e=>k (.error e) fr
  |.ok x=>eX q (bO fr x) λd=>q.t (tD d) λb=>jU b (ki q c body fr (ES q (λfr=>ms c fr t body cw n) (λac=>q.bad) k)) (k (.ok .next) fr)
noncomputable def Dd (q:Q W) (c:dj) (t:fQ) (body:List St) (cw:List Nat) (items:List D) (fr:Fm) (k:Except Str ey->Fm->W):W:=
 ER q (λd fr k=>eX q (asgT c.pin fr t (.fz d)) λfr=>lR fr λfr=>ki q c body fr k) (λds fr=>dL c fr t body cw ds) cw items fr k
noncomputable def km (q:Q W) (c:dj) (cb:Ex) (t:fQ) (aq:List Ex) (items:List D) (fr:Fm) (k:Except Str (List D)->Fm->W):W:=
 zv q (λd fr k=>eX q (asgT c.pin fr t (.fz d)) λfr=>lR fr λfr=>F8 q c aq fr (up k λb fr=>jU b (wp q c cb fr (up k λr fr=>eX q (bU r) λx=>k (.ok (some x)) fr)) (k (.ok none) fr)))
    (λds fr=>aZ c fr cb t aq ds) (aL t) items fr k
noncomputable def Nz (q:Q W) (P:Pr) (n:Nat) (hd:Bool) (f:Nat) (args:List Slot) (k:Option (Except Str Rv×List Slot)->W):W:=
 eX q P.fns[f]? λfn=>jU (decide (args.length=fn.np)) (lR (args++replicate (fn.nv-fn.np) .no) λfr=>ki q ⟨P.glob,cF P n,gB 0 args,hd⟩ fn.body fr λo fr=>k (EW args (some (o,fr)))) q.bad
end
inductive It where
 |b (b:Bool)|v (r:Rv)|d (d:D)|l (l:List D)
 |lp (o:Except Str ey×Fm)|cp (o:Except Str (List D)×Fm)|c (r:Except Str Rv×List Slot)
noncomputable abbrev bh:=List (Nat×It)
noncomputable def It.gb:It->Option Bool|.b x=>some x|_=>none
noncomputable def It.gv:It->Option Rv|.v x=>some x|_=>none
noncomputable def It.gd:It->Option D|.d x=>some x|_=>none
noncomputable def It.gl:It->Option (List D)|.l x=>some x|_=>none
noncomputable def It.glp:It->Option (Except Str ey×Fm)|.lp x=>some x|_=>none
noncomputable def It.gcp:It->Option (Except Str (List D)×Fm)|.cp x=>some x|_=>none
noncomputable def It.gc:It->Option (Except Str Rv×List Slot)|.c x=>some x|_=>none
def ask {α:Type} (g:It->Option α) (x:Option α) (dflt:bh->Prop) (f:α->bh->Prop):bh->Prop
 |[]=>dflt []
 |(n+1,i)::tp=>dflt ((n,i)::tp)
 |(0,i)::tp=>match g i with
  |none=>False
  |some y=>x=some y/\f y tp
noncomputable def rW {α:Type} (x:Option α) (f:α->bh->Prop):bh->Prop:=match x with
 |none=>λac=>False
 |some a=>f a
def askT (x:Bool) (f:Bool->bh->Prop):bh->Prop
 |[]=>f x []
 |(n+1,i)::tp=>f x ((n,i)::tp)
 |(0,i)::tp=>match i with
  |.b y=>x=y/\f y tp
  |_=>False
noncomputable def qT:Q (bh->Prop) where
 bad:=λac=>False
 b x f:=ask It.gb x (rW x f) f
 t x f:=askT x f
 v x f:=ask It.gv x (rW x f) f
 d x f:=ask It.gd x (rW x f) f
 l x f:=ask It.gl x (rW x f) f
 lp x u f:=ask It.glp x u λo=>f o.1 o.2
 cp x u f:=ask It.gcp x u λo=>f o.1 o.2
 c x f:=ask It.gc x (rW x λo=>f o.1 o.2) λo=>f o.1 o.2
def jW {α:Type} (m:cR α) (k:Except Str α->Fm->bh->Prop):Prop:= ∃o fr tp,m=some (o,fr)/\k o fr tp
theorem jW.ok {a:α} {fr:Fm} {k:Except Str α->Fm->bh->Prop} {tp:bh} (h:k (.ok a) fr tp):jW (some (.ok a,fr)) k:=⟨_,_,_,rfl,h⟩
theorem jW.bind {m:cR α} {k:Except Str β->Fm->bh->Prop} {f:α->Fm->bh->Prop} {g:Kt α β}
  (h:jW m (up k f)) (H:∀a fr tp,f a fr tp->jW (g.run a fr) k):jW (ex m) k:=by
 obtain⟨o,fr,tp,rfl,h⟩:=h;cases o with
 |error e=>exact⟨_,_,tp,rfl,h⟩
 |ok a=>exact H a fr tp h
theorem jW.bind' {m:cR α} {k:Except Str β->Fm->bh->Prop} {k':Except Str α->Fm->bh->Prop} {g:Kt α β}
  (h:jW m k') (He:∀e fr tp,k' (.error e) fr tp->k (.error e) fr tp) (H:∀a fr tp,k' (.ok a) fr tp->jW (g.run a fr) k):jW (ex m) k:=by
 obtain⟨o,fr,tp,rfl,h⟩:=h;cases o with
 |error e=>exact⟨_,_,tp,rfl,He _ _ _ h⟩
 |ok a=>exact H a fr tp h
theorem d6 {W:Type}:∀(fr:Fm) (k:Fm->W),lR fr k=k fr:=by
 intro fr k
 induction fr generalizing k with
 |nil=>exact rfl
 |cons s fr ih=>exact ih _
theorem oK {x:Option α} {f:α->bh->Prop} {tp:bh} (h:eX qT x f tp):∃a,x=some a/\f a tp:=by
 cases x with
 |none=>exact h.elim
 |some a=>exact⟨a,rfl,h⟩
theorem Bg {x:Option α} {f:α->bh->Prop} {tp:bh} (h:rW x f tp):∃a tp,x=some a/\f a tp:=by
 cases x with
 |none=>exact h.elim
 |some a=>exact⟨a,tp,rfl,h⟩
theorem iR {g:It->Option α} {x:Option α} {u:bh->Prop} {f:α->bh->Prop} {tp:bh} (h:ask g x u f tp):(∃tp,u tp)\/ ∃a tp,x=some a/\f a tp:=by
 match tp,h with
 |[],h=>exact .inl ⟨_,h⟩
 |(n+1,i)::tp,h=>exact .inl ⟨_,h⟩
 |(0,i)::tp,h=>
  have h:(match g i with|none=>False|some y=>x=some y/\f y tp):=h;cases hg:g i with
  |none=>have h:=hg▸h;exact h.elim
  |some y=>rw[hg]at h;exact .inr ⟨y,tp,h⟩
theorem cT {g:It->Option α} {x:Option α} {f:α->bh->Prop} {tp:bh} (h:ask g x (rW x f) f tp):∃a tp,x=some a/\f a tp:=by
 rcases iR h with⟨tp,h⟩|h
 .exact Bg h
 .exact h
theorem dQ {x:Bool} {f:Bool->bh->Prop} {tp:bh} (h:qT.t x f tp):∃tp,f x tp:=by
 have h:=h
 match tp,h with
 |[],h=>exact⟨_,h⟩
 |(n+1,i)::tp,h=>exact⟨_,h⟩
 |(0,.b y)::tp,h=>refine Er h.1 ?_;have h:=h.2;exact⟨_,h⟩
 |(0,.v _)::tp,h|(0,.d _)::tp,h|(0,.l _)::tp,h|(0,.lp _)::tp,h|(0,.cp _)::tp,h|(0,.c _)::tp,h=>exact h.elim
theorem rq {r:Rv} {x:bh->Prop} {tp:bh} (h:GZ qT r x tp):(∀fr,oE fr (some r)=some (.ok r,fr))/\x tp:=by
 cases r with
 |pl p=>exact h.elim
 |fz d=>exact⟨λac=>rfl,h⟩
 |own d=>exact⟨λac=>rfl,h⟩
theorem mR {b:Bool} {x:bh->Prop} {tp:bh} (h:jU b x qT.bad tp):b=true/\x tp:=by
 cases b with
 |true=>exact⟨rfl,h⟩
 |false=>exact h.elim
theorem mS {b:Bool} {x:bh->Prop} {tp:bh} (h:jU b qT.bad x tp):b=false/\x tp:=by
 cases b with
 |true=>exact h.elim
 |false=>exact⟨rfl,h⟩
theorem tT {c:dj} {t:fQ} {body:List St} (H:∀fr k tp,ki qT c body fr k tp->jW (du c body fr) k):∀(items:List D) (fr:Fm) (k:Except Str ey->Fm->bh->Prop) (tp:bh),
  Dd qT c t body cw items fr k tp->jW (dL c fr t body cw items) k:=by
 intro ds fr k tp h
 induction ds generalizing fr k tp with
 |nil=>exact⟨_,_,tp,rfl,h⟩
 |cons d ds ih=>
  rw[mL];have h:lR (clr fr cw) (λfr=>eX qT (asgT c.pin fr t (.fz d)) λfr=>lR fr λfr=>ki qT c body fr (ES qT (λfr=>dL c fr t body cw ds) (λfr=>Dd qT c t body cw ds fr k) k)) tp:=h;rw[d6]at h;obtain⟨Np,Q⟩:=oK h;have h1:=Q.1;have h:=Q.2;rw[d6]at h;refine jm (H _ _ _ h) λo OS tp q=>?_;have h2:=q.1;have h:=q.2
  refine Er h1 ?_;dsimp only;refine Er h2 ?_
  match o,h with
  |.error _,h=>exact⟨_,_,tp,rfl,h⟩
  |.ok (.ret r),h=>exact⟨_,_,tp,rfl,h⟩
  |.ok .next,h=>
   rcases iR h with⟨tp,h⟩|⟨o,tp,h3,h⟩
   .exact ih OS k tp h
   .exact⟨o.1,o.2,tp,h3,h⟩
theorem qK {c:dj} {cb:Ex} {t:fQ} {aq:List Ex} (H:∀fr k tp,wp qT c cb fr k tp->jW (ev c cb fr) k) (H':∀fr k tp,F8 qT c aq fr k tp->jW (dx c aq fr) k):
  ∀(items:List D) (fr:Fm) (k:Except Str (List D)->Fm->bh->Prop) (tp:bh),km qT c cb t aq items fr k tp->jW (aZ c fr cb t aq items) k:=by
 intro ds fr k tp h
 induction ds generalizing fr k tp with
 |nil=>exact⟨_,_,tp,rfl,h⟩
 |cons d ds ih=>
  rw[lF];have h:lR (clr fr (aL t)) (λfr=>eX qT (asgT c.pin fr t (.fz d)) λfr=>lR fr λfr=>F8 qT c aq fr (up (up k λr fr=>qT.cp (aZ c fr cb t aq ds) (km qT c cb t aq ds fr (iB k r)) (iB k r)) λb fr=>jU b
   (wp qT c cb fr (up (up k λr fr=>qT.cp (aZ c fr cb t aq ds) (km qT c cb t aq ds fr (iB k r)) (iB k r)) λr fr=>eX qT (bU r) λx=>(up k λr fr=>qT.cp (aZ c fr cb t aq ds) (km qT c cb t aq ds fr (iB k r)) (iB k r)) (.ok (some x)) fr))
   ((up k λr fr=>qT.cp (aZ c fr cb t aq ds) (km qT c cb t aq ds fr (iB k r)) (iB k r)) (.ok none) fr))) tp:=h
  rw[d6]at h;obtain⟨Np,Q⟩:=oK h;have h1:=Q.1;have h:=Q.2;rw[d6]at h;refine Er h1 ?_;refine(H' _ _ _ h).bind' (λac az cL h=>h) ?_;intro b fr tp h;have rest:∀(fr:Fm) (k:Except Str (List D)->Fm->bh->Prop) (tp:bh),qT.cp (aZ c fr cb t aq ds) (km qT c cb t aq ds fr k) k tp->jW (aZ c fr cb t aq ds) k:=by
   intro fr k tp h
   rcases iR h with⟨tp,h⟩|⟨o,tp,h3,h⟩
   .exact ih fr k tp h
   .exact⟨o.1,o.2,tp,h3,h⟩
  cases b with
  |false=>
   have:=rest _ _ _ h;refine jm this λo fr tp this=>?_
   refine⟨o,fr,tp,this.1,?_⟩;cases o with
   |error e=>exact this.2
   |ok rs=>exact this.2
  |true=>
   refine(H _ _ _ h).bind' (λac az cL h=>h) ?_;intro r fr tp h;refine aQ (oK h) λx q=>?_;have h4:=q.1;have h:=q.2
   dsimp only;exact Er h4 ((rest _ _ _ h).bind λrs fr tp h=>.ok h)
set_option maxRecDepth 4000
mutual
theorem bp (c:dj):∀(e:Ex) (fr:Fm) (k:Except Str Rv->Fm->bh->Prop) (tp:bh),wp qT c e fr k tp->jW (ev c e fr) k
 |.lit d,fr,k,tp,h=>by exact .ok h
 |.gl i,fr,k,tp,h=>by
  obtain⟨d,h1,h⟩:=oK h;rw[qy,h1];exact .ok h
 |.var i,fr,k,tp,h=>by
  rw[lr];have h:GG qT fr[i]? fr i k tp:=h;revert h
  match fr[i]? with
  |some (.fz d)=>exact λh=>.ok h
  |some (.own d)=>exact λh=>by have h:lR (fr.set i (.fz d)) (λfr=>k (.ok (.fz d)) fr) tp:=h;rw[d6]at h;exact .ok h
  |none=>exact λh=>h.elim
  |some .no=>exact λh=>h.elim
  |some (.exc _)=>exact λh=>h.elim
 |.pl p,fr,k,tp,h=>by
  obtain⟨h1,h⟩:=mR h;rw[qw,YV h1];exact .ok h
 |.tup es,fr,k,tp,h=>by
  rw[y3];refine(iH c es _ _ _ h).bind λrs fr tp h=>?_
  obtain⟨ds,h1,h⟩:=oK h;dsimp only;rw[h1];exact .ok h
 |.list es,fr,k,tp,h=>by
  rw[t6];refine(iH c es _ _ _ h).bind λrs fr tp h=>?_
  obtain⟨ds,h1,h⟩:=oK h;dsimp only;rw[h1];exact .ok h
 |.op2 o a b,fr,k,tp,h=>by
  rw[y5];refine(bp c a _ _ _ h).bind λx fr tp h=>(bp c b _ _ _ h).bind λy fr tp h=>?_
  obtain⟨d,h1,h⟩:=oK h;obtain⟨e,h2,h⟩:=oK h;obtain⟨r,tp,h3,h⟩:=cT h;obtain⟨h4,h⟩:=rq h;dsimp only;rw[h1,h2];dsimp only;rw[h3,h4];exact .ok h
 |.neg a,fr,k,tp,h=>by
  rw[y6];refine(bp c a _ _ _ h).bind λx fr tp h=>?_
  obtain⟨d,h1,h⟩:=oK h;obtain⟨e,h2,h⟩:=oK h;dsimp only;rw[h1];dsimp only;rw[h2];exact .ok h
 |.not a,fr,k,tp,h=>by
  rw[so];refine(bp c a _ _ _ h).bind λx fr tp h=>?_
  obtain⟨d,h1,h⟩:=oK h;obtain⟨tp,h⟩:=dQ h;dsimp only;rw[h1];exact .ok h
 |.cmp o a b,fr,k,tp,h=>by
  rw[su];refine(bp c a _ _ _ h).bind λx fr tp h=>(bp c b _ _ _ h).bind λy fr tp h=>?_
  obtain⟨d,h1,h⟩:=oK h;obtain⟨e,h2,h⟩:=oK h;obtain⟨r,tp,h3,h⟩:=cT h;dsimp only;rw[h1,h2];dsimp only;rw[h3];exact .ok h
 |.cmp2 o p a b e,fr,k,tp,h=>by
  rw[oq];refine(bp c a _ _ _ h).bind λx fr tp h=>(bp c b _ _ _ h).bind λy fr tp h=>?_
  obtain⟨d,h1,h⟩:=oK h;obtain⟨d',h2,h⟩:=oK h;obtain⟨t,tp,h3,h⟩:=cT h;obtain⟨tp,h⟩:=dQ h;dsimp only;rw[h1,h2];dsimp only;rw[h3];dsimp only;cases t with
  |false=>rw[YW (by decide)];exact .ok h
  |true=>
   rw[YV rfl];refine(bp c e _ _ _ h).bind λz fr tp h=>?_
   obtain⟨Gw,h4,h⟩:=oK h;obtain⟨b,tp,h5,h⟩:=cT h;dsimp only;rw[h4];dsimp only;rw[h5];exact .ok h
 |.and es,fr,k,tp,h=>by rw[lw];exact wh c es fr k tp h
 |.or es,fr,k,tp,h=>by rw[qx];exact wg c es fr k tp h
 |.ite t a b,fr,k,tp,h=>by
  rw[sq];refine(bp c t _ _ _ h).bind λx fr tp h=>?_
  obtain⟨d,h1,h⟩:=oK h;obtain⟨tp,h⟩:=dQ h;dsimp only;rw[h1];dsimp only;cases ht:tD d with
  |true=>
   rw[ht]at h;rw[YV rfl];refine(bp c a _ _ _ h).bind λr fr tp h=>?_
   obtain⟨d,h1,h⟩:=oK h;dsimp only;rw[h1];exact .ok h
  |false=>
   rw[ht]at h;rw[YW (by decide)];refine(bp c b _ _ _ h).bind λr fr tp h=>?_
   obtain⟨d,h1,h⟩:=oK h;dsimp only;rw[h1];exact .ok h
 |.idx a i,fr,k,tp,h=>by
  rw[y7];refine(bp c a _ _ _ h).bind λx fr tp h=>(bp c i _ _ _ h).bind λy fr tp h=>?_
  obtain⟨d,h1,h⟩:=oK h;obtain⟨e,h2,h⟩:=oK h;obtain⟨r,tp,h3,h⟩:=cT h;dsimp only;rw[h1,h2];dsimp only;rw[h3];exact .ok h
 |.slc a lo hi,fr,k,tp,h=>by
  rw[y4];refine(bp c a _ _ _ h).bind λx fr tp h=>(bp c lo _ _ _ h).bind λy fr tp h=>(bp c hi _ _ _ h).bind λz fr tp h=>?_
  obtain⟨d,h1,h⟩:=oK h;obtain⟨e,h2,h⟩:=oK h;obtain⟨f,h5,h⟩:=oK h;obtain⟨r,tp,h3,h⟩:=cT h;obtain⟨h4,h⟩:=rq h;dsimp only;rw[h1,h2,h5];dsimp only;rw[h3,h4];exact .ok h
 |.call f args,fr,k,tp,h=>by
  rw[t8];refine(iH c args _ _ _ h).bind λrs fr tp h=>?_
  obtain⟨ss,h1,h⟩:=oK h;obtain⟨h2,h⟩:=mR h;obtain⟨o,tp,h3,h⟩:=cT h;rw[d6]at h;show jW (lH c f rs fr) k
  unfold lH;rw[h1];dsimp only;rw[YV (YU h2),h3]
  match o,h with
  |(.error e,bW),h=>exact⟨_,_,tp,rfl,h⟩
  |(.ok r,bW),h=>
   obtain⟨d,h4,h⟩:=oK h;dsimp only;rw[h4];exact .ok h
 |.bi b args,fr,k,tp,h=>by
  rw[lu];obtain⟨h0,h⟩:=mS h;rw[h0,YW (by decide)];refine(iH c args _ _ _ h).bind λrs fr tp h=>?_
  obtain⟨ds,h1,h⟩:=oK h;obtain⟨r,tp,h3,h⟩:=cT h;obtain⟨h4,h⟩:=rq h;dsimp only;rw[h1];dsimp only;rw[h3,h4];exact .ok h
 |.comp cb t it bN aq,fr,k,tp,h=>by
  rw[t7];obtain⟨h0,h⟩:=mS h;rw[h0,YW (by decide)];refine(iH c bN _ _ _ h).bind λrs fr tp h=>?_
  obtain⟨ds,h1,h⟩:=oK h;obtain⟨items,tp,h3,h⟩:=cT h;dsimp only;rw[h1];dsimp only;rw[h3];dsimp only;have:=show jW (aZ c fr cb t aq items) _ from by
   rcases iR h with⟨tp,h⟩|⟨o,tp,h3,h⟩
   .exact qK (bp c cb) (rc c aq) items fr _ tp h
   .exact⟨o.1,o.2,tp,h3,h⟩
  obtain⟨o,fr,tp,h3,h⟩:=this;rw[h3]
  match o,h with
  |.error e,h=>have h:lR (clr fr (aL t)) (λfr=>k (.error e) fr) tp:=h;rw[d6]at h;exact⟨_,_,tp,rfl,h⟩
  |.ok ds,h=>exact .ok h
 |.isx _ _ _,fr,k,tp,h=>by exact h.elim
theorem iH (c:dj):∀(es:List Ex) (fr:Fm) (k:Except Str (List Rv)->Fm->bh->Prop) (tp:bh),Ci qT c es fr k tp->jW (lq c es fr) k
 |[],fr,k,tp,h=>by exact .ok h
 |e::es,fr,k,tp,h=>by
  rw[dw];exact(bp c e _ _ _ h).bind λx fr tp h=>(iH c es _ _ _ h).bind λy fr tp h=>.ok h
theorem wh (c:dj):∀(es:List Ex) (fr:Fm) (k:Except Str Rv->Fm->bh->Prop) (tp:bh),Kl qT c es fr k tp->jW (jL c es fr) k
 |[],fr,k,tp,h=>by exact h.elim
 |[e],fr,k,tp,h=>by
  rw[hU];refine(bp c e _ _ _ h).bind λr fr tp h=>?_
  obtain⟨d,h1,h⟩:=oK h;dsimp only;rw[h1];exact .ok h
 |e::e'::es,fr,k,tp,h=>by
  rw[gf];refine(bp c e _ _ _ h).bind λr fr tp h=>?_
  obtain⟨d,h1,h⟩:=oK h;obtain⟨tp,h⟩:=dQ h;dsimp only;rw[h1];dsimp only;cases ht:tD d with
  |true=>rw[ht]at h;rw[YV rfl];exact wh c (e'::es) _ _ _ h
  |false=>rw[ht]at h;rw[YW (by decide)];exact .ok h
theorem wg (c:dj):∀(es:List Ex) (fr:Fm) (k:Except Str Rv->Fm->bh->Prop) (tp:bh),Kk qT c es fr k tp->jW (qz c es fr) k
 |[],fr,k,tp,h=>by exact h.elim
 |[e],fr,k,tp,h=>by
  rw[i5];refine(bp c e _ _ _ h).bind λr fr tp h=>?_
  obtain⟨d,h1,h⟩:=oK h;dsimp only;rw[h1];exact .ok h
 |e::e'::es,fr,k,tp,h=>by
  rw[hO];refine(bp c e _ _ _ h).bind λr fr tp h=>?_
  obtain⟨d,h1,h⟩:=oK h;obtain⟨tp,h⟩:=dQ h;dsimp only;rw[h1];dsimp only;cases ht:tD d with
  |true=>rw[ht]at h;rw[YV rfl];exact .ok h
  |false=>rw[ht]at h;rw[YW (by decide)];exact wg c (e'::es) _ _ _ h
theorem rc (c:dj):∀(es:List Ex) (fr:Fm) (k:Except Str Bool->Fm->bh->Prop) (tp:bh),F8 qT c es fr k tp->jW (dx c es fr) k
 |[],fr,k,tp,h=>by exact .ok h
 |e::es,fr,k,tp,h=>by
  rw[i6];refine(bp c e _ _ _ h).bind λr fr tp h=>?_
  obtain⟨d,h1,h⟩:=oK h;obtain⟨tp,h⟩:=dQ h;dsimp only;rw[h1];dsimp only;cases ht:tD d with
  |true=>rw[ht]at h;rw[YV rfl];exact rc c es _ _ _ h
  |false=>rw[ht]at h;rw[YW (by decide)];exact .ok h
end
set_option tactic.hygienic true in
mutual
theorem Db (c:dj):∀(s:St) (fr:Fm) (k:Except Str ey->Fm->bh->Prop) (tp:bh),wpS qT c s fr k tp->jW (qv c s fr) k
 |.asg t e,fr,k,tp,h=>by
  rw[oo];obtain⟨h0,h⟩:=mS h;refine Er h0 (Er (YW (by decide)) ?_);refine(bp c e _ _ _ h).bind λr fr tp h=>?_
  refine aQ (oK h) λNp q0=>?_;have h1:=q0.1;have h:=q0.2
  rw[d6]at h;dsimp only;exact Er h1 (.ok h)
 |.setI p i e,fr,k,tp,h=>by
  rw[qu];refine(bp c e _ _ _ h).bind λr fr tp h=>?_
  obtain⟨h0,h⟩:=mR h;dsimp only;refine Er (YV h0) ?_;refine(bp c i _ _ _ h).bind λr fr tp h=>?_
  obtain⟨d,J⟩:=oK h;have h1:=J.1;have h:=J.2;obtain⟨x,u⟩:=oK h;have h2:=u.1;have h:=u.2;obtain⟨o,U⟩:=oK h;have h3:=U.1;have h:=U.2;refine fW (cT h) λo' tp Z=>?_;have h4:=Z.1;have h:=Z.2
  rw[d6]at h;dsimp only;refine Er h1 (Er h2 (Er h3 ?_));dsimp only;exact Er h4 (.ok h)
 |.app p e,fr,k,tp,h=>by
  rw[t4];obtain⟨h0,h⟩:=mR h;refine Er (YV h0) ?_;refine(bp c e _ _ _ h).bind λr fr tp h=>?_
  refine aQ (oK h) λd q3=>?_;have h1:=q3.1;have h:=q3.2
  dsimp only;refine Er h1 ?_;revert h
  match dT fr p with
  |none=>exact λh=>h.elim
  |some (.list xs)=>
   intro h;refine aQ (dQ h) λtp h=>?_;obtain⟨h2,h⟩:=mR h
   rw[d6]at h;dsimp only;exact Er (YV (YU h2)) (.ok h)
  |some .none=>exact λh=>h.elim
  |some (.bool _)=>exact λh=>h.elim
  |some (.int _)=>exact λh=>h.elim
  |some (.str _)=>exact λh=>h.elim
  |some (.tuple _)=>exact λh=>h.elim
  |some (.dict _)=>exact λh=>h.elim
 |.iff t a b,fr,k,tp,h=>by
  rw[tZ];refine(bp c t _ _ _ h).bind λx fr tp h=>?_
  refine aQ (oK h) λd q2=>?_;have h1:=q2.1;have h:=q2.2;obtain⟨tp,h⟩:=dQ h
  dsimp only;refine Er h1 ?_;dsimp only;cases ht:tD d with
  |true=>rw[ht]at h;exact Er (YV rfl) (fC c a _ _ _ h)
  |false=>rw[ht]at h;exact Er (YW (by decide)) (fC c b _ _ _ h)
 |.ret e,fr,k,tp,h=>by
  rw[tY];refine(bp c e _ _ _ h).bind λr fr tp h=>?_
  cases r with
  |pl p=>exact h.elim
  |fz d=>exact .ok h
  |own d=>exact .ok h
 |.for_ t it bN body cw,fr,k,tp,h=>by
  rw[t0];obtain⟨h0,h⟩:=mS h;refine Er h0 (Er (YW (by decide)) ?_);refine(iH c bN _ _ _ h).bind λrs fr tp h=>?_
  refine aQ (oK h) λds q1=>?_;have h1:=q1.1;have h:=q1.2;refine fW (cT h) λitems tp z=>?_;have h3:=z.1;have h:=z.2
  dsimp only;refine Er h1 ?_;dsimp only;refine Er h3 ?_;dsimp only
  rcases iR h with⟨tp,h⟩|⟨o,tp,h3,h⟩
  .exact tT (fC c body) items fr _ tp h
  .exact⟨o.1,o.2,tp,h3,h⟩
 |.whl t body cw,fr,k,tp,h=>by
  rw[tW];obtain⟨h0,h⟩:=mS h;refine Er h0 (Er (YW (by decide)) ?_)
  rcases iR h with⟨tp,h⟩|⟨o,tp,h3,h⟩
  .exact h.elim
  .exact⟨o.1,o.2,tp,h3,h⟩
 |.rpl i j n,fr,k,tp,h=>by
  rw[tX];have h:D0 qT fr[i]? fr[j]? n fr k tp:=h;generalize fr[i]? = a at h ⊢;generalize fr[j]? = b at h ⊢;unfold D0 at h
  split at h
  .rename_i x v
   obtain⟨tp,h⟩:=dQ h
   try dsimp only
   by_cases q:v=n
   .rw[Y0 q]at h
    refine fW (cT h) λd tp Q=>?_
    exact Er (YV q) (Er Q.1 (.ok Q.2))
   .rw[Y1 q]at h
    exact Er (YW q) (.ok h)
  .exact h.elim
 |.raise x,fr,k,tp,h=>by
  obtain⟨h0,h⟩:=mS h;rw[mO];exact Er h0 (Er (YW (by decide)) (⟨_,_,tp,rfl,h⟩))
 |.try_ _ _ _ _,fr,k,tp,h=>by exact h.elim
 |.no,fr,k,tp,h=>by exact h.elim
theorem fC (c:dj):∀(ss:List St) (fr:Fm) (k:Except Str ey->Fm->bh->Prop) (tp:bh),ki qT c ss fr k tp->jW (du c ss fr) k
 |[],fr,k,tp,h=>by exact .ok h
 |s::ss,fr,k,tp,h=>by
  rw[hM];refine(Db c s _ _ _ h).bind λr fr tp h=>?_
  cases r with
  |next=>exact fC c ss _ _ _ h
  |ret r=>exact .ok h
end
theorem ze (a b:Int):mP (.int a) (.int b)=some (decide (a=b)):=by
 rw[cm];congr 1
theorem fY (a b:Str):ag .eq (.str a) (.str b)=some (decide (a=b)):=Mv.e_strD a b
theorem dY (a b:Int):ag .eq (.int a) (.int b)=some (decide (a=b)):=ze a b
theorem er (a b:D):ag .eq a b=mP a b:=rfl
theorem sK (a b:D):ag .ne a b=(mP a b).map (!·):=rfl
theorem bz (a b:Int):ag .lt (.int a) (.int b)=some (decide (a<b)):=rfl
theorem iu (a b:Int):ag .le (.int a) (.int b)=some (decide (a<=b)):=rfl
theorem gh (a b:Int):ag .gt (.int a) (.int b)=some (decide (b<a)):=rfl
theorem LY (a b:Int):ag .ge (.int a) (.int b)=some (decide (b<=a)):=rfl
theorem zB (a b:D):ag .notin a b=(n5 a b).map (!·):=rfl
theorem oJ (s:Str) (i:Int):fU (.str s) (.int i)=(aW s.cps.toList i).map λc=>.str ⟨#[c]⟩:=rfl
theorem cA (n:Int):cj .range [.int n]=if -1000000000<=n/\n<=(Sz:Int) then some (f6 0 n.toNat) else none:=rfl
theorem wS (l:List (D×D)) (k:Str) (d:D):ro (.dict l) (.str k) d=if l.length<Sz then some (.dict (i8 l k d)) else none:=rfl
structure F where
 n:Nat
 it:It
 A:Prop
 pf:A
noncomputable abbrev F.b (n:Nat) {x:Option Bool} {y:Bool} (h:x=some y):F:=⟨n,.b y,x=some y,h⟩
noncomputable abbrev F.t (n:Nat) {x y:Bool} (h:x=y):F:=⟨n,.b y,x=y,h⟩
noncomputable abbrev F.v (n:Nat) {x:Option Rv} {y:Rv} (h:x=some y):F:=⟨n,.v y,x=some y,h⟩
noncomputable abbrev F.d (n:Nat) {x:Option D} {y:D} (h:x=some y):F:=⟨n,.d y,x=some y,h⟩
noncomputable abbrev F.l (n:Nat) {x:Option (List D)} {y:List D} (h:x=some y):F:=⟨n,.l y,x=some y,h⟩
noncomputable abbrev F.lp (n:Nat) {x:cR ey} {y:Except Str ey×Fm} (h:x=some y):F:=⟨n,.lp y,x=some y,h⟩
noncomputable abbrev F.cp (n:Nat) {x:cR (List D)} {y:Except Str (List D)×Fm} (h:x=some y):F:=⟨n,.cp y,x=some y,h⟩
noncomputable abbrev F.c (n:Nat) {x:Option (Except Str Rv×List Slot)} {y:Except Str Rv×List Slot} (h:x=some y):F:=⟨n,.c y,x=some y,h⟩
noncomputable def jo:List F->bh
 |[]=>[]
 |f::fs=>(f.n,f.it)::jo fs
def sQ (R:Prop):List F->Prop
 |[]=>R
 |f::fs=>f.A/\sQ R fs
theorem jh {R:Prop} (h:R):∀fs,sQ R fs:=by
 intro fs
 induction fs with
 |nil=>exact h
 |cons f fs ih=>exact⟨f.pf,ih⟩
theorem aJ (fs:List F) {P:Pr} {hd:Bool} {args:List Slot} {R R':Option (Except Str Rv×List Slot)} (hR:R'=R)
  (h:sQ (R'=R) fs=Nz qT P n hd f args (λr ac=>r=R) (jo fs):=by kernel_rfl):cF P (n+1) hd f args=R:=by
 have h:=Eq.mp h (jh hR fs);refine aQ (oK h) λfn Q=>?_;have h1:=Q.1;have h:=Q.2;obtain⟨h2,h⟩:=mR h
 rw[d6]at h;refine jm (fC _ _ _ _ _ h) λo fr tp q=>?_
 unfold cF;refine Er h1 ?_;dsimp only;exact Er (YV (YU h2)) (Er q.1 q.2)
theorem mn (fs:List F) {c:dj} {fr:Fm} {t:fQ} {body:List St} {items:List D} {R R':cR ey} (hR:R'=R)
  (h:sQ (R'=R) fs=Dd qT c t body cw items fr (λo fr ac=>some (o,fr)=R) (jo fs):=by kernel_rfl):dL c fr t body cw items=R:=by
 refine jm (tT (fC c body) _ _ _ _ (Eq.mp h (jh hR fs))) λo fr tp q=>?_
 exact Er q.1 (Er q.2 rfl)
theorem v9 (fs:List F) {c:dj} {fr:Fm} {t:Ex} {body:List St} {R R':cR ey} (hR:R'=R)
  (h:sQ (R'=R) fs=Mq qT c t body cw n fr (λo fr ac=>some (o,fr)=R) (jo fs):=by kernel_rfl):ms c fr t body cw (n+1)=R:=by
 have h:=Eq.mp h (jh hR fs);unfold Mq at h;rw[d6]at h;refine jm (bp _ _ _ _ _ h) λo fr tp q=>?_;have h1:=q.1;have h:=q.2
 rw[oM];refine Er h1 ?_
 match o,h with
 |.error _,h=>exact h
 |.ok x,h=>
  refine aQ (oK h) λd z=>?_;have h2:=z.1;have h:=z.2
  refine aQ (dQ h) λtp h=>?_
  rw[aT,fP,h2,fP];cases ht:tD d with
  |false=>rw[ht]at h;exact h
  |true=>
   rw[ht]at h;refine jm (fC _ _ _ _ _ h) λo fr tp Q=>?_;have h3:=Q.1;have h:=Q.2
   dsimp only;refine Er h3 ?_
   match o,h with
   |.error _,h=>exact h
   |.ok (.ret r),h=>exact h
   |.ok .next,h=>
    rcases iR h with⟨tp,h⟩|⟨o,tp,h4,h⟩
    .exact h.elim
    .exact Eq.trans h4 h
theorem mq (fs:List F) {c:dj} {fr:Fm} {cb:Ex} {t:fQ} {aq:List Ex} {items:List D} {R R':cR (List D)} (hR:R'=R)
  (h:sQ (R'=R) fs=km qT c cb t aq items fr (λo fr ac=>some (o,fr)=R) (jo fs):=by kernel_rfl):aZ c fr cb t aq items=R:=by
 refine jm (qK (bp c cb) (rc c aq) _ _ _ _ (Eq.mp h (jh hR fs))) λo fr tp q=>?_
 exact Er q.1 (Er q.2 rfl)
theorem Mp (fs:List F) {c:dj} {fr:Fm} {ss:List St} {R R':cR ey} (hR:R'=R)
  (h:sQ (R'=R) fs=ki qT c ss fr (λo fr ac=>some (o,fr)=R) (jo fs):=by kernel_rfl):du c ss fr=R:=by
 refine jm (fC _ _ _ _ _ (Eq.mp h (jh hR fs))) λo fr tp q=>?_
 exact Er q.1 (Er q.2 rfl)
end Mv
namespace Mv
open PySem PyProof.Rows
noncomputable def eI (val:Nat->Str) (i:Nat):List Str:=((List.range i).map val).reverse
theorem mA (val:Nat->Str) (i:Nat):eI val (i+1)=val i::eI val i:=by
 unfold eI;refine Er List.range_succ (Er Zu (Er List.reverse_append ?_));rfl
theorem w5 (val:Nat->Str) (i:Nat):(eI val i).length=i:=by unfold eI;simp
theorem qF:∀l:List Str,ax l<=l.length:=by
 intro r
 induction r with
 |nil=>exact Zg _
 |cons x r ih=>
  have:=ih;show(if r.contains x then ax r else ax r+1)<=r.length+1
  split<;>(first|exact(L1 [ax r,r.length] .x (.p 1 .y) .x .y rfl this)|exact(L1 [ax r,r.length] (.p 1 .x) (.p 1 .y) .x .y rfl this))
section
variable {prog:Program} {w:World} {A:Around} {R:Result->Shared->Prop} {I:Addr} {fp wr:List Addr} {G:Array GenState->Array GenState->Prop} {n:Nat} {P:Nat->Value->Prop} {St:Nat->Shared->Prop}
theorem o9 (W:WalksS prog w A.in1 I fp wr G n P St) (S:Addr) (IL:S∉fp) (val:Nat->Str) (Bm:∀i v,P i v-> ∃t,v = .str (val i) t) (hb:n+1<scanBound):
  ∀(k i:Nat) (s:Shared),n-i=k->i<=n->St i s->s.heap.SetOf (strKind prog w) S (λk'=>(eI val i).contains k') (ax (eI val i))->
   (∀s',Moved (S::wr) G s s'->s'.heap.SetOf (strKind prog w) S (λk'=>(eI val n).contains k') (ax (eI val n))->R (.ok (.ret .none)) s')->
   codeAny (model prog w) A (.builtin "set.update.loop" ⟨[.ref S,.ref I],[]⟩) R s:=by
 have Ni:S∉wr:=λh=>IL (W.sub _ h)
 have vd:∀b∈wr,b∈S::wr:=λb hb=>Zo _ hb
 intro k
 induction k with
 |zero=>
  intro i s hk hi z4 hS hR;have J7:i=n:=by exact(Zi hi (Ln [n,i,n-i] (.w .x .y) [Ge .z (.c 0),Gf (.a .z .y) .x] rfl hk (Za (n:=n) (m:=i) hi)))
  subst J7;refine codeAny_builtin PyProof.Rows.F.entry_set_update_loop ?_;refine Er (Around.under_plainId PyProof.Rows.F.plain_set_update_loop _) ?_;refine YS (W.done s _ _ z4 λs' hm=>?_);exact YO (hR s' (hm.mono vd) (by
   refine oI hS λo es ep t hS=>?_
   exact⟨o,es,ep,t,hm.heap S _ Ni hS.1,hS.2⟩))
 |succ k ih=>
  intro i s hk hi z4 hS hR;have l7:i<n:=by exact(Ln [i,n,n-i,k] (.w (.p 1 .x) .y) [Gf .z (.p 1 .u),Ge (.a .z .x) .y] rfl hk (Za (n:=n) (m:=i) hi))
  refine codeAny_builtin PyProof.Rows.F.entry_set_update_loop ?_;refine Er (Around.under_plainId PyProof.Rows.F.plain_set_update_loop _) ?_;refine YS (W.item i s _ _ l7 z4 λv s' hP K7 hm=>?_);refine aQ (Bm i v hP) λt q=>?_;subst q
  have EO:s'.heap.SetOf (strKind prog w) S (λk'=>(eI val i).contains k') (ax (eI val i)):=by
   exact oI hS λo es ep tb hS=>(⟨o,es,ep,tb,hm.heap S _ Ni hS.1,hS.2⟩)
  refine YS (wpAny_holding ?_);unfold setAdd;refine wpAny_holding ?_;refine YS ((strKind prog w).pyHash (k:=val i) (strKind_is _ _ _ _) ?_);have yx:ax (eI val i)+1<scanBound:=by have:=qF (eI val i);rw[w5]at this;exact(Ln [ax (eI val i),scanBound,n,i] (.w (.p 1 (.p 1 .x)) .y) [Gl (.p 1 (.p 1 .z)) .y,Gl .u .z,Gl .x .u] rfl hb hi this)
  refine wpAny_setAddHashed_of (knd:=strKind prog w) (s:= {s' with toks:=s'.toks+1}) (strKind_is _ _ _ _) rfl EO yx λh' pX OJ=>?_
  have OI:h'.SetOf (strKind prog w) S (λk'=>(eI val (i+1)).contains k') (ax (eI val (i+1))):=by
   refine SetOf_congr OJ (λk'=>?_) ?_
   .rw[mA,List.contains_cons,Bool.or_comm];congr 1
   .rw[mA];rfl
  refine YO ⟨plainId_quiet PyProof.Rows.F.plain_set_update_loop _,ih (i+1) _ (Le [n-(i+(1:Nat)),k,n-i,i,n] (.e .x .y) [Gp .z (.p 1 .y),Gp (.a .x (.p 1 .u)) (.v 4),Gq (.a .z .u) (.v 4)] rfl hk (Za (n:=n) (m:=i+(1:Nat)) l7) (Za (n:=n) (m:=i) hi)) l7 (W.frame _ s' _ _ K7 (Nat.le_succ _) λb hb o e=>?_) OI λd4 Lh LK=>?_⟩
  .exact Er (pX.2 b (λh:b=S=>IL (by refine Er h.symm ?_;exact hb))) e
  .refine hR d4 (Moved.trans W.gtrans ((hm.mono vd).then_heap (Nat.le_succ _) λb o hb e=>?_) Lh) LK
   exact Er (pX.2 b (λh:b=S=>hb (by refine Er h ?_;exact Zn))) e
end
theorem lX:isSubtype (.type "tuple") (.type "set") = pure false:=by rw [isSubtype_type]; kernel_rfl
theorem il:isSubtype (.type "tuple") (.type "frozenset") = pure false:=by rw [isSubtype_type]; kernel_rfl
section
variable {prog:Program} {w:World} {A:Around} {E:Value->Shared->Prop} {s:Shared}
set_option maxHeartbeats 3200000 in
theorem oy {l:Addr} {T:String} {items:Array Value} {nl:Nat} {val:Nat→Str} {Q:Value→Shared→Prop} (hT:T = "list"∨T = "tuple")
  (hh:A.handled=none) (MZ:s.heap.get? l=some {cls:=.type T,data:=.seq items nl}) (Bm:∀(i:Nat) (v:Value),items[i]? = some v-> ∃t,v = .str (val i) t) (hb:items.size+1<scanBound)
  (h:∀(h':Heap) (tk:Nat),h'.SetOf (strKind prog w) s.heap.objs.size (λk'=>(eI val items.size).contains k') (ax (eI val items.size))->
   (∀b o,b<s.heap.objs.size->s.heap.get? b=some o->h'.get? b=some o)->Q (.ref s.heap.objs.size) {s with heap:=h',toks:=tk}):
  wpAny (model prog w) A (call (.type "set") [.ref l]) Q E s:=by
 obtain ⟨c,tl,Oj⟩:=F.called_set.mro;have M0:=F.called_set.made;have vd:=F.called_set.sub;refine wpAny_call (codeAny_of_tree ?_);show wpAny _ _ (callAny (.type "set") _) _ _ _
 refine YO ⟨Code.quiet_builtin _ (by decide +kernel),codeAny_builtin F.entry_type_call ?_⟩;rw [Around.under_plain (weight_type_call_type "set" [.ref l] []) rfl];have h1:=F.called_set.notType;have h2:=F.called_set.canCreate;have Pm:=F.typeCall_set_1 (.ref l)
 repeat (any_goals (first|assumption|wp_step))
 refine codeAny_mono (code_set_new_1 (.ref l) (E:=E) (Q₁:=fun obj s₁=> ∃nW:Bool,obj = .ref s.heap.objs.size∧s₁ = {s with heap:=s.heap.push {cls:=.type "set",dict:=none,data:=.set #[] 0 (.fresh 0 0 nW)}}) fun nW=>⟨nW,rfl,rfl⟩) fun r s₁ hr=>?_
 cases r with
 |error e=>exact hr
 |ok fl=>
  cases fl with
  |ret obj=>
   obtain ⟨nW,rfl,rfl⟩:=hr;have hS:(s.heap.push {cls:=.type "set",dict:=none,data:=.set #[] 0 (.fresh 0 0 nW)}).get? s.heap.objs.size = some {cls:=.type "set",dict:=none,data:=.set #[] 0 (.fresh 0 0 nW)}:=ZX _ rfl;have OG:Shared.TypeIs {s with heap:=s.heap.push {cls:=.type "set",dict:=none,data:=.set #[] 0 (.fresh 0 0 nW)}} (.ref s.heap.objs.size) "set":=⟨_,hS,rfl⟩
   have Pf:=F.called_set.init.lookup;have Pq:=F.called_set.init.bind (.ref s.heap.objs.size)
   repeat (any_goals (first|assumption|wp_step))
   refine codeAny_mono (codeAny_call_builtin (R:=wants (λr aA=>r = .none/\ ∃h' tk,aA={s with heap:=h',toks:=tk}/\
     h'.SetOf (strKind prog w) s.heap.objs.size (λk'=>(eI val items.size).contains k') (ax (eI val items.size))/\
     (∀b o,b<s.heap.objs.size->s.heap.get? b=some o->h'.get? b=some o)) E) F.called_set.init.plain F.entry_set_init (check_set_init_1 OG ?_)) λKA aA pY=>?_
   .have Iq:(s.heap.push {cls:=.type "set",dict:=none,data:=.set #[] 0 (.fresh 0 0 nW)}).get? l = some {cls:=.type T,data:=.seq items nl}:=ZY _ MZ
    have Ob:isSubtype (.type T) (.type "set") = pure false:=by rcases hT with rfl | rfl; exact F.sub_list_set; exact lX
    have Oc:isSubtype (.type T) (.type "frozenset") = pure false:=by rcases hT with rfl | rfl; exact F.sub_list_frozenset; exact il
    have ip:(type T == type "dict") = false:=by rcases hT with rfl | rfl <;> decide
    have M7:l<s.heap.objs.size:=ZV MZ;have Na:A.in1.in1.in1.handled=none:=by simp[hh]
    have Iu:l≠(s.heap.push {cls:=.type "set",dict:=none,data:=.set #[] 0 (.fresh 0 0 nW)}).objs.size:=by
     rw[Heap.size_push];exact ne_of_lt (Nat.lt_succ_of_lt M7)
    have IL:s.heap.objs.size∉ [(s.heap.push {cls:=.type "set",dict:=none,data:=.set #[] 0 (.fresh 0 0 nW)}).objs.size,l]:=by
     rw[Heap.size_push];simp only[mem_cons,Zl,not_mem_nil,or_false,not_or];exact⟨ne_of_lt (lt_succ_self _),ne_of_gt M7⟩
    have Nj:∀o,((s.heap.push {cls:=.type "set",dict:=none,data:=.set #[] 0 (.fresh 0 0 nW)}).push o).SetOf (strKind prog w) s.heap.objs.size (fun k'=>(eI val 0).contains k') (ax (eI val 0)):=fun o=>by
     have n9:((s.heap.push {cls:=.type "set",dict:=none,data:=.set #[] 0 (.fresh 0 0 nW)}).push o).get? s.heap.objs.size = some {cls:=.type "set",dict:=none,data:=.set #[] 0 (.fresh 0 0 nW)}:=ZY _ hS;exact SetOf_congr ((setObjOf_fresh (knd:=strKind prog w) nW).setOf n9 (by unfold scanBound; exact (L0 [] (.p 1 (.c 0)) (.c 4096) rfl))) (fun ac=>rfl) rfl
    have tail:∀(o:Obj) (s':Shared),Moved [s.heap.objs.size,(s.heap.push {cls:=.type "set",dict:=none,data:=.set #[] 0 (.fresh 0 0 nW)}).objs.size] (fun a b=>b = a) {s with heap:=(s.heap.push {cls:=.type "set",dict:=none,data:=.set #[] 0 (.fresh 0 0 nW)}).push o} s'→
      ∃h' tk,s'={s with heap:=h',toks:=tk}/\ ∀b o,b<s.heap.objs.size->s.heap.get? b=some o->h'.get? b=some o:=λo s' hm=>by
     obtain ⟨h',g',d',Ku,NO⟩:=s';have eg:g'=s.gens:=hm.gens;have ed:d'=s.drawn:=hm.drawn;have eo:NO=s.os:=hm.os;subst eg; subst ed; subst eo;refine ⟨h',Ku,rfl,fun b o hb e=>?_⟩;have OF:b≠s.heap.objs.size:=ne_of_lt hb;have OE:b≠(s.heap.push {cls:=.type "set",dict:=none,data:=.set #[] 0 (.fresh 0 0 nW)}).objs.size:=by
      rw[Heap.size_push];exact ne_of_lt (Nat.lt_succ_of_lt hb)
     exact hm.heap b o (by simp only[mem_cons,Zl,not_mem_nil,or_false,not_or];exact⟨OF,OE⟩) (ZY _ (ZY _ e))
    unfold Builtin.«set.__init__» noKeywords Builtin.Frozenset.updateFrom;generalize OK:pyIter=PI
    wp_walk
    subst OK
    rcases hT with rfl|rfl
    .have Iz:(s.heap.push {cls:=.type "set",dict:=none,data:=.set #[] 0 (.fresh 0 0 nW)}).IsList l items:=⟨_,Iq,rfl,nl,rfl⟩
     refine wpAny_pyIter_list Iz ?_;refine YS (wpAny_runValue ?_);refine o9 ((Walks.list Na _ l Iu items).toS) s.heap.objs.size IL val Bm hb (items.size-0) 0 _ (by exact(Le [items.size-(0:Nat)] (.e .x .x) [] rfl)) (Y8 _) ⟨⟨_,ZX _ rfl,rfl,rfl⟩,(Iz.push _)⟩ (Nj _) λs' hm EO=>?_
     obtain⟨h',tk,rfl,hk⟩:=tail _ s' hm;exact YO (YO ⟨rfl,h',tk,rfl,EO,hk⟩)
    .have Iz:(s.heap.push {cls:=.type "set",dict:=none,data:=.set #[] 0 (.fresh 0 0 nW)}).IsTuple l items:=⟨_,Iq,rfl,nl,rfl⟩
     refine wpAny_pyIter_tuple Iz ?_;refine YS (wpAny_runValue ?_);refine o9 ((Walks.tuple Na _ l Iu items).toS) s.heap.objs.size IL val Bm hb (items.size-0) 0 _ (by exact(Le [items.size-(0:Nat)] (.e .x .x) [] rfl)) (Y8 _) ⟨⟨_,ZX _ rfl,rfl,rfl⟩,(Iz.push _)⟩ (Nj _) λs' hm EO=>?_
     obtain⟨h',tk,rfl,hk⟩:=tail _ s' hm;exact YO (YO ⟨rfl,h',tk,rfl,EO,hk⟩)
   .cases KA with
    |error e=>exact pY
    |ok IP=>
     cases IP with
     |ret r=>
      obtain⟨rfl,h',tk,rfl,EO,f5⟩:=pY
      repeat (any_goals (first|assumption|wp_step))
      exact h _ _ EO f5
     |_=>exact pY.elim
  |_=>exact hr.elim
end
class Hp where
 w:World
 B:Heap
 mg:Str->Option Value
 mb:Str->Option Value
variable [Hp]
noncomputable abbrev prog:Program:=Hq.p
noncomputable abbrev w:World:=Hp.w
noncomputable abbrev B:Heap:=Hp.B
noncomputable abbrev mg:Str->Option Value:=Hp.mg
noncomputable abbrev mb:Str->Option Value:=Hp.mb
def iG (h:Heap) (a:Addr) (kvs:List (Str×Value)):Prop:=(a==sysModules)=false/\h.DictOf (strKind prog w) a kvs
theorem iG.at' {kvs:List (Str×Value)} (k:∀o,h.get? a=some o->h'.get? a=some o) (x:iG h a kvs):iG h' a kvs:=
 ⟨x.1,let ⟨o,es,ep,ho,r⟩:=x.2;⟨o,es,ep,k o ho,r⟩⟩
theorem iG.live {kvs:List (Str×Value)} (x:iG h a kvs):∃o,h.get? a=some o:=let ⟨o,_,_,ho,_⟩:=x.2;⟨o,ho⟩
mutual
inductive bS (h:Heap) (Z:Addr->Prop):Value->D->Prop
 |none:bS h Z .none .none
 |bool (b:Bool):bS h Z (.bool b) (.bool b)
 |int (i:Int) (t:Tok):bS h Z (.int i t) (.int i)
 |str (x:Str) (t:Tok):PyData.strOk x=true->x.cps.size<=Sz->bS h Z (.str x t) (.str x)
 |list {a:Addr} {vs:List Value} {n:Nat} {ds:List D}:Z a->IsL h a vs.toArray n->vs.length<=Sz->ao h Z vs ds->bS h Z (.ref a) (.list ds)
 |tuple {a:Addr} {vs:List Value} {n:Nat} {ds:List D}:Z a->IsT h a vs.toArray n->vs.length<=Sz->ao h Z vs ds->bS h Z (.ref a) (.tuple ds)
 |dict {a:Addr} {kvs:List (Str×Value)} {ds:List (D×D)}:Z a->iG h a kvs->kvs.length<=Sz->aP h Z kvs ds->bS h Z (.ref a) (.dict ds)
inductive ao (h:Heap) (Z:Addr->Prop):List Value->List D->Prop
 |nil:ao h Z [] []
 |cons {v:Value} {vs:List Value} {d:D} {ds:List D}:bS h Z v d->ao h Z vs ds->ao h Z (v::vs) (d::ds)
inductive aP (h:Heap) (Z:Addr->Prop):List (Str×Value)->List (D×D)->Prop
 |nil:aP h Z [] []
 |cons {k:Str} {v:Value} {kvs:List (Str×Value)} {d:D} {ds:List (D×D)}:PyData.strOk k=true->k.cps.size<=Sz->bS h Z v d->aP h Z kvs ds->aP h Z ((k,v)::kvs) ((.str k,d)::ds)
end
section
variable {h h':Heap} {Z Z':Addr->Prop}
theorem nO {P1:Value->D->Prop} {P2:List Value->List D->Prop} {P3:List (Str×Value)->List (D×D)->Prop} (h0:P1 .none .none) (hb:∀b,P1 (.bool b) (.bool b)) (hi:∀i t,P1 (.int i t) (.int i))
  (hs:∀(x:Str) t,PyData.strOk x=true->x.cps.size<=Sz->P1 (.str x t) (.str x)) (hl:∀ {a:Addr} {vs:List Value} {n:Nat} {ds:List D},Z a->IsL h a vs.toArray n->vs.length<=Sz->P2 vs ds->P1 (.ref a) (.list ds))
  (ht:∀ {a:Addr} {vs:List Value} {n:Nat} {ds:List D},Z a->IsT h a vs.toArray n->vs.length<=Sz->P2 vs ds->P1 (.ref a) (.tuple ds))
  (hd:∀ {a:Addr} {kvs:List (Str×Value)} {ds:List (D×D)},Z a->iG h a kvs->kvs.length<=Sz->P3 kvs ds->P1 (.ref a) (.dict ds)) (n2:P2 [] []) (c2:∀ {v:Value} {vs:List Value} {d:D} {ds:List D},P1 v d->P2 vs ds->P2 (v::vs) (d::ds))
  (n3:P3 [] []) (c3:∀ {k:Str} {v:Value} {kvs:List (Str×Value)} {d:D} {ds:List (D×D)},PyData.strOk k=true->k.cps.size<=Sz->P1 v d->P3 kvs ds->P3 ((k,v)::kvs) ((.str k,d)::ds)):
  (∀ {v:Value} {d:D},bS h Z v d->P1 v d)/\(∀ {vs:List Value} {ds:List D},ao h Z vs ds->P2 vs ds)/\ ∀ {vs:List (Str×Value)} {ds:List (D×D)},aP h Z vs ds->P3 vs ds:=
 have L6:∀ {v:Value} {vs:List Value} {d:D} {ds:List D},bS h Z v d->ao h Z vs ds->P1 v d->P2 vs ds->P2 (v::vs) (d::ds):=λac az a b=>c2 a b
 have df:∀ {a:Addr} {vs:List Value} {n:Nat} {ds:List D},Z a->IsL h a vs.toArray n->vs.length<=Sz->ao h Z vs ds->P2 vs ds->P1 (.ref a) (.list ds):=λz g l ac e=>hl z g l e
 have K4:∀ {a:Addr} {vs:List Value} {n:Nat} {ds:List D},Z a->IsT h a vs.toArray n->vs.length<=Sz->ao h Z vs ds->P2 vs ds->P1 (.ref a) (.tuple ds):=λz g l ac e=>ht z g l e
 have di:∀ {a:Addr} {kvs:List (Str×Value)} {ds:List (D×D)},Z a->iG h a kvs->kvs.length<=Sz->aP h Z kvs ds->P3 kvs ds->P1 (.ref a) (.dict ds):=λz g l ac e=>hd z g l e
 have L5:∀ {k:Str} {v:Value} {kvs:List (Str×Value)} {d:D} {ds:List (D×D)},PyData.strOk k=true->k.cps.size<=Sz->bS h Z v d->aP h Z kvs ds->P1 v d->P3 kvs ds->P3 ((k,v)::kvs) ((.str k,d)::ds):=λo l ac az a b=>c3 o l a b
 ⟨λr=>bS.rec (motive_1:=λv d ac=>P1 v d) (motive_2:=λvs ds ac=>P2 vs ds) (motive_3:=λvs ds ac=>P3 vs ds) h0 hb hi hs df K4 di n2 L6 n3 L5 r,
  λr=>ao.rec (motive_1:=λv d ac=>P1 v d) (motive_2:=λvs ds ac=>P2 vs ds) (motive_3:=λvs ds ac=>P3 vs ds) h0 hb hi hs df K4 di n2 L6 n3 L5 r,
  λr=>aP.rec (motive_1:=λv d ac=>P1 v d) (motive_2:=λvs ds ac=>P2 vs ds) (motive_3:=λvs ds ac=>P3 vs ds) h0 hb hi hs df K4 di n2 L6 n3 L5 r⟩
theorem ju (hk:∀a o,Z a->h.get? a=some o->h'.get? a=some o) (hz:∀a,Z a->Z' a):(∀ {v:Value} {d:D},bS h Z v d->bS h' Z' v d)/\(∀ {vs:List Value} {ds:List D},ao h Z vs ds->ao h' Z' vs ds)/\ ∀ {vs:List (Str×Value)} {ds:List (D×D)},aP h Z vs ds->aP h' Z' vs ds:=
 nO .none .bool .int .str (λz g l r=>.list (hz _ z) (hk _ _ z g) l r) (λz g l r=>.tuple (hz _ z) (hk _ _ z g) l r) (λz g l r=>.dict (hz _ z) (g.at' λo=>hk _ o z) l r) .nil .cons .nil .cons
theorem bS.mono (hk:∀a o,Z a->h.get? a=some o->h'.get? a=some o) (hz:∀a,Z a->Z' a) {v:Value} {d:D} (r:bS h Z v d):bS h' Z' v d:=(ju hk hz).1 r
theorem ao.mono (hk:∀a o,Z a->h.get? a=some o->h'.get? a=some o) (hz:∀a,Z a->Z' a) {ds:List D} (r:ao h Z vs ds):ao h' Z' vs ds:=(ju hk hz).2.1 r
theorem aP.mono (hk:∀a o,Z a->h.get? a=some o->h'.get? a=some o) (hz:∀a,Z a->Z' a) {vs:List (Str×Value)} {ds:List (D×D)} (r:aP h Z vs ds):aP h' Z' vs ds:=(ju hk hz).2.2 r
theorem ao.ind {P:List Value->List D->Prop} (n:P [] []) (c:∀ {v:Value} {vs:List Value} {d:D} {ds:List D},bS h Z v d->ao h Z vs ds->P vs ds->P (v::vs) (d::ds)):∀ {vs:List Value} {ds:List D},ao h Z vs ds->P vs ds:=by
 intro vs x1 R
 induction vs generalizing x1 with
 |nil=>cases R;exact n
 |cons v vs ih=>cases R with|cons a r=>exact c a r (ih r)
theorem aP.ind {P:List (Str×Value)->List (D×D)->Prop} (n:P [] []) (c:∀ {k:Str} {v:Value} {vs:List (Str×Value)} {d:D} {ds:List (D×D)},PyData.strOk k=true->k.cps.size<=Sz->bS h Z v d->aP h Z vs ds->P vs ds->P ((k,v)::vs) ((.str k,d)::ds)):∀ {vs:List (Str×Value)} {ds:List (D×D)},aP h Z vs ds->P vs ds:=by
 intro vs x1 R
 induction vs generalizing x1 with
 |nil=>cases R;exact n
 |cons _ vs ih=>cases R with|cons o l a r=>exact c o l a r (ih r)
theorem aP.length {vs:List (Str×Value)} {ds:List (D×D)} (r:aP h Z vs ds):vs.length=ds.length:=aP.ind (P:=λvs ds=>vs.length=ds.length) rfl (λac az cL lS e=>Y2 (· + 1) e) r
theorem aP.get {vs:List (Str×Value)} {ds:List (D×D)} (r:aP h Z vs ds):(b5 ds k=none/\valueAt vs k=none)\/ ∃v d,b5 ds k=some d/\valueAt vs k=some v/\bS h Z v d:=by
 refine aP.ind (P:=λvs ds=>(b5 ds k=none/\valueAt vs k=none)\/ ∃v d,b5 ds k=some d/\valueAt vs k=some v/\bS h Z v d) (.inl ⟨rfl,rfl⟩) ?_ r;intro k' v kvs d ds _ _ a _ ih
 by_cases q:k'=k
 .exact .inr ⟨v,d,by show(if k'=k then some d else b5 ds k)=some d;exact Er (YV q) rfl,by unfold valueAt;refine Er (find?_cons) (Er (Y0 q) ?_);rfl,a⟩
 .have e:b5 ((.str k',d)::ds) k=b5 ds k:=by show(if k'=k then some d else b5 ds k)=_;exact Er (YW q) rfl
  have e':valueAt ((k',v)::kvs) k=valueAt kvs k:=by unfold valueAt;exact Er (find?_cons) (Er (Y1 q) rfl)
  exact Er e (Er e' ih)
theorem aP.setm {v:Value} {d:D} (rv:bS h Z v d) {vs:List (Str×Value)} {ds:List (D×D)} (r:aP h Z vs ds):aP h Z (vs.map λkv=>if kv.1=k then(kv.1,v) else kv) (lB ds k d):=by
 refine aP.ind (P:=λvs ds=>aP h Z (vs.map λkv=>if kv.1=k then(kv.1,v) else kv) (lB ds k d)) .nil ?_ r;intro k' v' kvs d' ds o l a _ ih;refine Er Zt ?_;show aP h Z _ ((.str k',if k'=k then d else d')::lB ds k d)
 by_cases q:k'=k
 .exact Er (YV q) (Er (YV q) (.cons o l rv ih))
 .exact Er (YW q) (Er (YW q) (.cons o l a ih))
theorem aP.has {vs:List (Str×Value)} {ds:List (D×D)} (r:aP h Z vs ds):(vs.any λkv=>decide (kv.1=k))=(b5 ds k).isSome:=by
 refine aP.ind (P:=λvs ds=>(vs.any λkv=>decide (kv.1=k))=(b5 ds k).isSome) rfl ?_ r;intro k' v kvs d ds _ _ a _ ih;refine Er any_cons ?_;show _=(if k'=k then some d else b5 ds k).isSome
 by_cases q:k'=k
 .refine Er (YV q) (Er (Y0 q) ?_);rfl
 .refine Er (YW q) ?_;rw[Y1 q,Bool.false_or];exact ih
theorem aP.app {v:Value} {d:D} (o:PyData.strOk k=true) (l:k.cps.size<=Sz) (rv:bS h Z v d) {vs:List (Str×Value)} {ds:List (D×D)} (r:aP h Z vs ds):aP h Z (vs++[(k,v)]) (ds++[(.str k,d)]):=
 aP.ind (P:=λvs ds=>aP h Z (vs++[(k,v)]) (ds++[(str k,d)])) (.cons o l rv .nil) (λo' l' a ac e=>.cons o' l' a e) r
theorem aP.set {v:Value} {d:D} {vs:List (Str×Value)} {ds:List (D×D)} (r:aP h Z vs ds) (o:PyData.strOk k=true) (l:k.cps.size<=Sz) (rv:bS h Z v d):aP h Z (stored vs k v) (i8 ds k d):=by
 unfold stored i8;refine Er r.has ?_
 split
 .exact r.setm rv
 .exact r.app o l rv
theorem vQ (k:Str) (d:D):∀ds:List (D×D),(lB ds k d).length=ds.length:=by
 intro r
 induction r with
 |nil=>exact rfl
 |cons p0 r ih=>
  obtain⟨x,y⟩:=p0;cases x<;>exact Y2 (· + 1) ih
theorem vL (k:Str) (d:D) (ds:List (D×D)):(i8 ds k d).length<=ds.length+1:=by
 unfold i8
 split
 .rw[vQ];exact(L0 [ds.length] .x (.p 1 .x) rfl)
 .simp
theorem kI:(∀ {v:Value} {d:D},bS h Z v d->noDict d=true-> ∃as,Reads h v d as)/\(∀ {vs:List Value} {ds:List D},ao h Z vs ds->noDicts ds=true-> ∃as,ReadsAll h vs ds as)/\ ∀ {vs:List (Str×Value)} {ds:List (D×D)},aP h Z vs ds->True:=by
 refine nO (λac=>⟨_,.none⟩) (λb ac=>⟨_,.bool b⟩) (λi t ac=>⟨_,.int i t⟩) (λx t ac az cL=>⟨_,.str x t⟩) (λac g az r e=>?_) (λac g az r e=>?_) (λac az cL lS e=>nomatch e) (λac=>⟨_,.nil⟩) (λa r e=>?_) trivial λac az cL lS=>trivial
 .obtain⟨_,q⟩:=r e;exact⟨_,.list g rfl rfl q⟩
 .obtain⟨_,q⟩:=r e;exact⟨_,.tuple g rfl rfl (by exact q)⟩
 .have Q:=and_eq_true_iff.mp e
  obtain⟨_,p⟩:=a Q.1;refine aQ (r Q.2) λac q=>?_;exact⟨_,.cons p q⟩
theorem bS.reads {v:Value} {d:D} (r:bS h Z v d) (e:noDict d=true):∃as,Reads h v d as:=kI.1 r e
theorem ao.reads {ds:List D} (r:ao h Z vs ds) (e:noDicts ds=true):∃as,ReadsAll h vs ds as:=kI.2.1 r e
theorem jK:(∀ {v:Value} {d:D},bS h Z v d->noDict d=true->d.canLay0=true)/\(∀ {vs:List Value} {ds:List D},ao h Z vs ds->noDicts ds=true->canLayAll0 ds=true)/\ ∀ {vs:List (Str×Value)} {ds:List (D×D)},aP h Z vs ds->True:=by
 refine nO (λac=>rfl) (λb ac=>rfl) (λi t ac=>rfl) (λx t o ac az=>o) (λac g az r e=>r e) (λac g az r e=>r e) (λac az cL lS e=>nomatch e) (λac=>rfl) (λa r e=>?_) trivial λac az cL lS=>trivial
 exact and_eq_true_iff.mpr ⟨a (and_eq_true_iff.mp e).1,r (and_eq_true_iff.mp e).2⟩
theorem bS.canLay {v:Value} {d:D} (r:bS h Z v d) (e:noDict d=true):d.canLay0=true:=jK.1 r e
theorem ao.canLay {ds:List D} (r:ao h Z vs ds) (e:noDicts ds=true):canLayAll0 ds=true:=jK.2.1 r e
theorem ao.length {ds:List D} (r:ao h Z vs ds):vs.length=ds.length:=ao.ind (P:=λvs ds=>vs.length=ds.length) rfl (λac az e=>Y2 (· + 1) e) r
theorem ao.append {ws:List Value} {ds es:List D} (r:ao h Z vs ds) (k:ao h Z ws es):ao h Z (vs++ws) (ds++es):=ao.ind (P:=λvs ds=>ao h Z (vs++ws) (ds++es)) k (λa ac e=>.cons a e) r
theorem ao.drop {ds:List D} (n:Nat) (r:ao h Z vs ds):ao h Z (vs.drop n) (ds.drop n):=
 ao.ind (P:=λvs ds=> ∀n,ao h Z (vs.drop n) (ds.drop n)) (λn=>by cases n<;>exact .nil) (λa r e n=>by cases n with|zero=>exact .cons a r|succ n=>exact e n) r n
theorem ao.take {ds:List D} (n:Nat) (r:ao h Z vs ds):ao h Z (vs.take n) (ds.take n):=
 ao.ind (P:=λvs ds=> ∀n,ao h Z (vs.take n) (ds.take n)) (λn=>by cases n<;>exact .nil) (λa r e n=>by cases n with|zero=>exact .nil|succ n=>exact .cons a (e n)) r n
theorem ao.get {ds:List D} {k:Nat} {d:D} (r:ao h Z vs ds) (q:ds[k]? = some d):∃v,vs[k]? = some v/\bS h Z v d:=
 ao.ind (P:=λvs ds=> ∀(k:Nat) (d:D),ds[k]? = some d-> ∃v,vs[k]? = some v/\bS h Z v d) (λac az e=>ah e) (λa r ih k d e=>by
  cases k with
  |zero=>obtain rfl:=aF e;exact⟨_,rfl,a⟩
  |succ k=>exact ih k d e) r k d q
theorem ao.getV {ds:List D} {k:Nat} {v:Value} (r:ao h Z vs ds) (q:vs[k]? = some v):∃d,ds[k]? = some d/\bS h Z v d:=
 ao.ind (P:=λvs ds=> ∀(k:Nat) (v:Value),vs[k]? = some v-> ∃d,ds[k]? = some d/\bS h Z v d) (λac az e=>ah e) (λa r ih k d e=>by
  cases k with
  |zero=>obtain rfl:=aF e;exact⟨_,rfl,a⟩
  |succ k=>exact ih k d e) r k v q
theorem ao.set {ds:List D} (k:Nat) {v:Value} {d:D} (r:ao h Z vs ds) (q:bS h Z v d):ao h Z (vs.set k v) (ds.set k d):=
 ao.ind (P:=λvs ds=> ∀k,ao h Z (vs.set k v) (ds.set k d)) (λac=>.nil) (λa r e k=>by cases k with|zero=>exact .cons q r|succ k=>exact .cons a (e k)) r k
theorem ao.rep {ds:List D} (r:ao h Z vs ds):∀n:Nat,ao h Z (replicate n vs).flatten (replicate n ds).flatten:=by
 intro n
 induction n with
 |zero=>exact .nil
 |succ n ih=>simpa [List.replicate_succ] using ao.append r ih
end
inductive cq (h:Heap) (Z:Addr->Prop) (a:Addr):D->Prop
 |list {vs:List Value} {n:Nat} {ds:List D}:IsL h a vs.toArray n->vs.length<=Sz->ao h Z vs ds->cq h Z a (.list ds)
 |dict {kvs:List (Str×Value)} {ds:List (D×D)}:iG h a kvs->kvs.length<=Sz->aP h Z kvs ds->cq h Z a (.dict ds)
theorem cq.mono {d:D} (hk:∀a o,Z a->h.get? a=some o->h'.get? a=some o) (hz:∀a,Z a->Z' a) (ha:∀o,h.get? a=some o->h'.get? a=some o):cq h Z a d->cq h' Z' a d
 |.list g l r=>.list (ha _ g) l (r.mono hk hz)
 |.dict g l r=>.dict (g.at' ha) l (r.mono hk hz)
theorem cq.live {d:D}:cq h Z a d-> ∃o,h.get? a=some o
 |.list g _ _=>⟨_,g⟩
 |.dict g _ _=>g.live
theorem cq.rep {d:D} (x:cq h Z a d) (hz:∀a,Z a->Z' a) (ha:Z' a):bS h Z' (.ref a) d:=by
 cases x with
 |list g l r=>exact .list ha g l (r.mono (λac az cL e=>e) hz)
 |dict g l r=>exact .dict ha g l (r.mono (λac az cL e=>e) hz)
set_option genCtorIdx true in
inductive Loc where|dict (a:Addr) (x:Str)|cell (a:Addr)
noncomputable def Loc.addr:Loc->Addr|.dict a _=>a|.cell a=>a
def im (h:Heap):Loc->Value->Prop
 |.dict a x,v=> ∃m,h.Ns a m/\m x=some v
 |.cell a,v=>h.IsCell a (some v)
def rH (h:Heap):Loc->Prop
 |.dict a _=> ∃m,h.Ns a m
 |.cell a=> ∃v,h.IsCell a v
structure Lay where
 loc:Nat->Option Loc
 L:Addr
 F:Addr->Prop
structure Lay.Wf (y:Lay):Prop where
 apart:∀i j l k,y.loc i=some l->y.loc j=some k->i≠j->l.addr=k.addr-> ∃a x z,l = .dict a x/\k = .dict a z/\x≠z
 nf:∀i l,y.loc i=some l-> ¬y.F l.addr
 nL:¬y.F y.L
 cl:∀i a,y.loc i=some (.cell a)->a≠y.L
def eD (h:Heap) (Z O:Addr->Prop):Slot->Value->Prop
 |.no,_=>True
 |.fz d,v=>bS h Z v d
 |.own d,v=> ∃a,v = .ref a/\O a/\cq h Z a d
 |.exc k,v=> ∃a o C m,v = .ref a/\Z a/\h.get? a=some o/\(o.cls = .ref C/\o.dict=none/\ ∃vs,o.data = .fields vs)/\Z mainGlobals/\h.Ns mainGlobals m/\m k=some (.ref C)
def NR (o:Obj):Prop:= ∀vs,o.data≠ .fields vs
def Lay.wr (y:Lay) (own:Addr->Option Nat) (a:Addr):Prop:=own a≠none\/a=y.L\/ ∃i l,y.loc i=some l/\l.addr=a
inductive zT (y:Lay) (h:Heap) (Z Ow:Addr->Prop) (i:Nat) (sl:Slot):Prop
 |mk (l:Loc) (v:Value):y.loc i=some l->im h l v->eD h Z Ow sl v->zT y h Z Ow i sl
structure Inv (y:Lay) (own:Addr->Option Nat) (Z:Addr->Prop) (h:Heap) (fr:Fm):Prop where
 wf:y.Wf
 base:∀a o,B.get? a=some o->h.get? a=some o
 zb:∀a o,B.get? a=some o->Z a
 zo:∀a,Z a->own a=none
 zl:∀i l,y.loc i=some l-> ¬Z l.addr
 ol:∀i l,y.loc i=some l->own l.addr=none
 zL:¬Z y.L
 oL:own y.L=none
 zF:∀a,Z a-> ¬y.F a
 oF:∀a,own a≠none-> ¬y.F a
 zlv:∀a,Z a-> ∃o,h.get? a=some o
 olv:∀a,own a≠none-> ∃o,h.get? a=some o
 flv:∀a,y.F a-> ∃o,h.get? a=some o/\NR o
 ok:∀i l,y.loc i=some l->rH h l
 nsL:∃m,h.Ns y.L m
 at':∀i sl,fr[i]? = some sl->sl≠ .no->zT y h Z (λa=>own a=some i) i sl
structure Cg (W F:Addr->Prop) (h h':Heap):Prop where
 keep:∀a o,h.get? a=some o-> ¬W a-> ¬F a->h'.get? a=some o
 live:∀a o,h.get? a=some o-> ∃o',h'.get? a=some o'
 fram:∀a o,F a->h.get? a=some o-> ∃sl,h'.get? a=some {o with slots:=sl}
structure Step (y:Lay) (bv:List Nat) (own:Addr->Option Nat) (Z:Addr->Prop) (s:Shared) (af:Addr->Option Nat) (Z':Addr->Prop) (s':Shared):Prop where
 sh:∃h' tk,s'={s with heap:=h',toks:=tk}
 ext:Cg (y.wr own) y.F s.heap s'.heap
 zm:∀a,Z a->Z' a
 zn:∀a,Z' a->Z a\/own a≠none\/s.heap.get? a=none
 on:∀a i,af a=some i->own a=some i\/s.heap.get? a=none
 bind:∀i l v,i∉bv->y.loc i=some l->im s.heap l v->im s'.heap l v
section
variable {y:Lay} {bv bv':List Nat} {own af tw:Addr->Option Nat} {Z Z' m4:Addr->Prop} {s s' d4:Shared} {h h':Heap} {fr b4:Fm}
theorem Cg.refl (W F:Addr->Prop) (h:Heap):Cg W F h h:=⟨λac az e cL lS=>e,λac o e=>⟨o,e⟩,λac o az e=>⟨o.slots,e⟩⟩
theorem Cg.trans {W W' F:Addr->Prop} {h h' Gu:Heap} (x:Cg W F h h') (z:Cg W' F h' Gu) (hw:∀a,W' a->W a\/h.get? a=none):Cg W F h Gu where
 keep:=λa o e MU hf=>z.keep a o (x.keep a o e MU hf) (λq=>(hw a q).elim MU λn=>by rw[n]at e;exact ah e) hf
 live:=λa o e=>let ⟨o',e'⟩:=x.live a o e;z.live a o' e'
 fram:=λa o f e=>let ⟨sl,e'⟩:=x.fram a o f e;let ⟨wN,IZ⟩:=z.fram a _ f e';⟨wN,IZ⟩
theorem Step.refl:Step y bv own Z s own Z s:=⟨⟨_,_,rfl⟩,.refl _ _ _,λac z=>z,λac z=>.inl z,λac az e=>.inl e,λac az cL lS Ic r=>r⟩
theorem m9 (x:∀a i,af a=some i->own a=some i\/h.get? a=none) (a:Addr) (w:y.wr af a):y.wr own a\/h.get? a=none:=by
 rcases w with w|w
 .cases e:af a with
  |none=>exact absurd e w
  |some i=>exact(x a i e).imp (λq=>.inl (by refine Er q ?_;exact λn=>by cases n)) id
 .exact .inl (.inr w)
theorem Step.trans (x:Step y bv own Z s af Z' s') (z:Step y bv af Z' s' tw m4 d4):Step y bv own Z s tw m4 d4 where
 sh:=by refine fW x.sh λh' tk Q=>?_;subst Q;refine fW z.sh λGu Ku u=>?_;subst u;exact⟨_,_,rfl⟩
 ext:=x.ext.trans z.ext (m9 x.on)
 zm:=λa q=>z.zm a (x.zm a q)
 zn:=λa q=>by
  rcases z.zn a q with q|q|q
  .exact x.zn a q
  .cases e:af a with
   |none=>exact absurd e q
   |some i=>exact(x.on a i e).elim (λw=>.inr (.inl (by refine Er w ?_;exact λn=>by cases n))) λw=>.inr (.inr w)
  .cases e:s.heap.get? a with
   |none=>exact .inr (.inr rfl)
   |some o=>obtain⟨o',e'⟩:=x.ext.live a o e;rw[q]at e';exact ah e'
 on:=λa i q=>by
  rcases z.on a i q with q|q
  .exact x.on a i q
  .cases e:s.heap.get? a with
   |none=>exact .inr rfl
   |some o=>obtain⟨o',e'⟩:=x.ext.live a o e;rw[q]at e';exact ah e'
 bind:=λi l v hb hl r=>z.bind i l v hb hl (x.bind i l v hb hl r)
theorem Step.sub (x:Step y bv own Z s af Z' s') (hb:∀i,i∈bv->i∈bv'):Step y bv' own Z s af Z' s':= {x with bind:=λi l v n hl r=>x.bind i l v (λq=>n (hb i q)) hl r}
theorem Inv.nwr (I:Inv y own Z h fr) (z:Z a):¬y.wr own a:=by
 rintro (w|w|⟨i,l,hl,rfl⟩)
 .exact w (I.zo a z)
 .exact I.zL (w▸z)
 .exact I.zl i l hl z
theorem Inv.keepZ (I:Inv y own Z s.heap fr) (x:Cg (y.wr own) y.F s.heap h') (a:Addr) (o:Obj) (z:Z a) (e:s.heap.get? a=some o):h'.get? a=some o:=x.keep a o e (I.nwr z) (I.zF a z)
theorem Step.rep (x:Step y bv own Z s af Z' s') (I:Inv y own Z s.heap fr) {v:Value} {d:D} (r:bS s.heap Z v d):bS s'.heap Z' v d:=r.mono (I.keepZ x.ext) x.zm
theorem Step.repAll (x:Step y bv own Z s af Z' s') (I:Inv y own Z s.heap fr) {ds:List D} (r:ao s.heap Z vs ds):ao s'.heap Z' vs ds:=r.mono (I.keepZ x.ext) x.zm
def fB (y:Lay) (own:Addr->Option Nat) (Z:Addr->Prop) (h₀ h:Heap):Rv->Value->Prop
 |.fz d,v=>bS h Z v d
 |.own d,v=> ∃a,v = .ref a/\h₀.get? a=none/\ ¬y.wr own a/\ ¬y.F a/\ ¬Z a/\cq h Z a d
 |.pl (.var i),v=> ∃l,y.loc i=some l/\im h l v
noncomputable def gA:Rv->List Nat
 |.pl (.var i)=>[i]
 |_=>[]
theorem Step.rv (x:Step y bv own Z s af Z' s') (I:Inv y own Z s.heap fr) {v:Value} {r:Rv} (hb:∀i∈gA r,i∉bv) (q:fB y own Z h₀ s.heap r v):fB y af Z' h₀ s'.heap r v:=by
 cases r with
 |fz d=>exact x.rep I q
 |own d=>
  obtain⟨a,q⟩:=q;refine Er q.1 ?_;obtain⟨o,ho⟩:=q.2.2.2.2.2.live;refine⟨a,rfl,q.2.1,λw=>?_,q.2.2.2.1,λz=>?_,q.2.2.2.2.2.mono (I.keepZ x.ext) x.zm λo e=>x.ext.keep a o e q.2.2.1 q.2.2.2.1⟩
  .rcases m9 x.on a w with w|w
   .exact q.2.2.1 w
   .rw[w]at ho;exact ah ho
  .rcases x.zn a z with z|z|z
   .exact q.2.2.2.2.1 z
   .exact q.2.2.1 (.inl z)
   .rw[z]at ho;exact ah ho
 |pl p=>
  cases p with
  |var i=>obtain⟨l,q⟩:=q;exact⟨l,q.1,x.bind i l v (hb i (by simp[gA])) q.1 q.2⟩
theorem fB.since {h₀ h₁ h:Heap} (k:∀a,h₁.get? a=none->h₀.get? a=none) {v:Value} {r:Rv} (q:fB y own Z h₁ h r v):fB y own Z h₀ h r v:=by
 cases r with
 |fz d=>exact q
 |own d=>exact aQ q λa q=>(⟨a,q.1,k a q.2.1,q.2.2⟩)
 |pl p=>cases p<;>exact q
theorem Step.old (x:Step y bv own Z s af Z' s') (a:Addr) (e:s'.heap.get? a=none):s.heap.get? a=none:=by
 cases q:s.heap.get? a with
 |none=>rfl
 |some o=>refine aQ (x.ext.live a o q) λo' e'=>?_;rw[e]at e';exact ah e'
theorem Step.addZ (x:Step y bv own Z s af Z' s') (e:s.heap.get? a=none):Step y bv own Z s af (λb=>Z' b\/b=a) s':=
 {x with
  zm:=λb z=>.inl (x.zm b z)
  zn:=λb z=>z.elim (x.zn b) λq=>.inr (.inr (q▸e))}
theorem eD.mono {O O':Addr->Prop} {sl:Slot} {v:Value} (hk:∀a o,Z a->h.get? a=some o->h'.get? a=some o) (hz:∀a,Z a->Z' a) (ho:∀a,O a->O' a) (On:∀a o,O a->h.get? a=some o->h'.get? a=some o)
  (x:eD h Z O sl v):eD h' Z' O' sl v:=by
 cases sl with
 |no=>trivial
 |fz d=>exact bS.mono hk hz x
 |own d=>obtain⟨a,rfl,oa,w⟩:=x;exact⟨a,rfl,ho a oa,w.mono hk hz λo e=>On a o oa e⟩
 |exc _=>refine oI x λa o C m x=>?_;refine Er x.1 ?_;exact⟨a,o,C,m,rfl,hz a x.2.1,hk a o x.2.1 x.2.2.1,x.2.2.2.1,hz _ x.2.2.2.2.1,x.2.2.2.2.2.1.at' λo=>hk _ o x.2.2.2.2.1,x.2.2.2.2.2.2⟩
theorem im.keeps {l:Loc} {v:Value} (k:∀o,h.get? l.addr=some o->h'.get? l.addr=some o) (x:im h l v):im h' l v:=by
 cases l with
 |dict a z=>exact aQ x λm x=>(⟨m,x.1.at' k,x.2⟩)
 |cell a=>exact aQ x λo x=>(⟨o,k _ x.1,x.2⟩)
theorem rH.keeps {l:Loc} (k:∀o,h.get? l.addr=some o->h'.get? l.addr=some o) (x:rH h l):rH h' l:=by
 cases l with
 |dict a z=>exact aQ x λm hn=>(⟨m,hn.at' k⟩)
 |cell a=>exact fW x λv o x=>(⟨v,o,k _ x.1,x.2⟩)
theorem rH.live {l:Loc} (x:rH h l):∃o,h.get? l.addr=some o:=by
 cases l with
 |dict a z=>refine oI x λm o ac az x=>?_;have ho:=x.1;exact⟨o,ho⟩
 |cell a=>exact fW x λv o x=>(⟨o,x.1⟩)
theorem Inv.grow (I:Inv y own Z h fr) (k:∀b o,h.get? b=some o->h'.get? b=some o):Inv y own Z h' fr where
 wf:=I.wf
 base:=λa o e=>k a o (I.base a o e)
 zb:=I.zb
 zo:=I.zo
 zl:=I.zl
 ol:=I.ol
 zL:=I.zL
 oL:=I.oL
 zF:=I.zF
 oF:=I.oF
 zlv:=λa z=>let ⟨o,e⟩:=I.zlv a z;⟨o,k a o e⟩
 olv:=λa z=>let ⟨o,e⟩:=I.olv a z;⟨o,k a o e⟩
 flv:=λa z=>let ⟨o,e,q⟩:=I.flv a z;⟨o,k a o e,q⟩
 ok:=λi l e=>(I.ok i l e).keeps λo=>k _ o
 nsL:=let ⟨m,hn⟩:=I.nsL;⟨m,hn.keeps k⟩
 at':=λi sl e n=>let ⟨l,v,hl,r,q⟩:=I.at' i sl e n;⟨l,v,hl,r.keeps λo=>k _ o,q.mono (λa o ac=>k a o) (λac z=>z) (λac z=>z) λa o ac=>k a o⟩
theorem Step.grow (k:∀b o,s.heap.get? b=some o->h'.get? b=some o):Step y bv own Z s own Z {s with heap:=h',toks:=tk} where
 sh:=⟨_,_,rfl⟩
 ext:=⟨λa o e ac az=>k a o e,λa o e=>⟨o,k a o e⟩,λa o ac e=>⟨o.slots,k a o e⟩⟩
 zm:=λac z=>z
 zn:=λac z=>.inl z
 on:=λac az e=>.inl e
 bind:=λi l v ac az r=>r.keeps λo=>k _ o
theorem Inv.addZ (I:Inv y own Z h fr) {o:Obj} (nw:¬y.wr own a) (nf:¬y.F a) (e:h.get? a=some o):Inv y own (λb=>Z b\/b=a) h fr where
 wf:=I.wf
 base:=I.base
 zb:=λa o e=>.inl (I.zb a o e)
 zo:=λb z=>z.elim (I.zo b) λq=>by
  cases w:own b with
  |none=>rfl
  |some i=>exact absurd (.inl (by refine Er q.symm (Er w ?_);exact λn=>by cases n)) nw
 zl:=λi l e z=>z.elim (I.zl i l e) λq=>nw (.inr (.inr ⟨i,l,e,q⟩))
 ol:=I.ol
 zL:=λz=>z.elim I.zL λq=>nw (.inr (.inl q.symm))
 oL:=I.oL
 zF:=λb z=>z.elim (I.zF b) λq=>q▸nf
 oF:=I.oF
 zlv:=λb z=>z.elim (I.zlv b) λq=>⟨o,q▸e⟩
 olv:=I.olv
 flv:=I.flv
 ok:=I.ok
 nsL:=I.nsL
 at':=λi sl e n=>let ⟨l,v,hl,r,q⟩:=I.at' i sl e n;⟨l,v,hl,r,q.mono (λac az cL e=>e) (λac z=>.inl z) (λac z=>z) λac az cL e=>e⟩
theorem Inv.fresh (I:Inv y own Z h fr) (e:h.get? a=none):¬y.wr own a/\ ¬y.F a/\ ¬Z a:=by
 refine⟨?_,λf=>?_,λz=>?_⟩
 .rintro (w|w|⟨i,l,hl,rfl⟩)
  .obtain⟨o,q⟩:=I.olv a w;rw[e]at q;exact ah q
  .refine oI I.nsL λm o ac az Q=>?_;have q:=Q.1;rw[<- w,e]at q;exact ah q
  .obtain⟨o,q⟩:=(I.ok i l hl).live;rw[e]at q;exact ah q
 .obtain⟨o,u⟩:=I.flv a f;have q:=u.1;rw[e]at q;exact ah q
 .obtain⟨o,q⟩:=I.zlv a z;rw[e]at q;exact ah q
theorem Step.growZ (k:∀b o,s.heap.get? b=some o->h'.get? b=some o) (e:s.heap.get? a=none):Step y bv own Z s own (λb=>Z b\/b=a) {s with heap:=h',toks:=tk} where
 sh:=⟨_,_,rfl⟩
 ext:=⟨λa o e ac az=>k a o e,λa o e=>⟨o,k a o e⟩,λa o ac e=>⟨o.slots,k a o e⟩⟩
 zm:=λac z=>.inl z
 zn:=λb z=>z.elim .inl λq=>.inr (.inr (q▸e))
 on:=λac az e=>.inl e
 bind:=λi l v ac az r=>r.keeps λo=>k _ o
theorem Inv.growZ (I:Inv y own Z h fr) {o:Obj} (k:∀b o,h.get? b=some o->h'.get? b=some o) (e:h.get? a=none) (e':h'.get? a=some o):Inv y own (λb=>Z b\/b=a) h' fr:=
 (I.grow k).addZ (I.fresh e).1 (I.fresh e).2.1 e'
set_option tactic.hygienic true in
theorem eG {fr:Fm} {sl wN:Slot} (e:(fr.set i sl)[j]? = some wN):(j=i/\wN=sl)\/(j≠i/\fr[j]? = some wN):=by
 rw[List.getElem?_set]at e
 split at e
 .rename_i q
  split at e
  .exact .inl ⟨q.symm,(Y5 e).symm⟩
  .exact ah e
 .rename_i q;exact .inr ⟨λw=>q w.symm,e⟩
theorem Inv.forget (I:Inv y own Z h fr) (i:Nat):Inv y own Z h (fr.set i .no):=
 {I with
  at':=by
   intro j sl e n
   rcases eG e with⟨rfl,rfl⟩|⟨_,e⟩
   .exact absurd rfl n
   .exact I.at' j sl e n}
theorem Inv.clr (I:Inv y own Z h fr):∀l:List Nat,Inv y own Z h (clr fr l):=by
 intro l
 induction l generalizing fr with
 |nil=>exact I
 |cons i l ih=>exact ih (I.forget i)
noncomputable def iA (own:Addr->Option Nat) (a:Addr):Addr->Option Nat:=λb=>if b=a then none else own b
noncomputable def addO (own:Addr->Option Nat) (a:Addr) (i:Nat):Addr->Option Nat:=λb=>if b=a then some i else own b
set_option tactic.hygienic true in
theorem sy {b:Addr} (e:iA own a b=some j):own b=some j/\b≠a:=by
 unfold iA at e;split at e
 .exact ah e
 .rename_i q;exact⟨e,q⟩
set_option tactic.hygienic true in
theorem qD {b:Addr} (e:iA own a b≠none):own b≠none/\b≠a:=by
 unfold iA at e;split at e
 .exact absurd rfl e
 .rename_i q;exact⟨e,q⟩
inductive C8 (y:Lay) (own:Addr->Option Nat) (Z:Addr->Prop) (h:Heap) (fr:Fm) (i:Nat) (d:D):Prop
 |mk (l:Loc) (a:Addr):y.loc i=some l->im h l (.ref a)->own a=some i->bS h (λb=>Z b\/b=a) (.ref a) d->Inv y (iA own a) (λb=>Z b\/b=a) h (fr.set i (.fz d))->C8 y own Z h fr i d
set_option tactic.hygienic true in
theorem Inv.freeze (I:Inv y own Z h fr) {d:D} (hs:fr[i]? = some (.own d)):
  C8 y own Z h fr i d:=by
 obtain⟨l,v,hl,hr,a,rfl,oa,w⟩:=I.at' i _ hs (by intro n;cases n);have on:own a≠none:=by exact Er oa (λn=>by cases n)
 refine aQ w.live λo ho=>?_
 have R:bS h (λb=>Z b\/b=a) (.ref a) d:=w.rep (λac z=>.inl z) (.inr rfl);refine⟨l,a,hl,hr,oa,R,⟨I.wf,I.base,λb o e=>.inl (I.zb b o e),λb z=>?_,λj k e z=>?_,λj k e=>?_,λz=>?_,?_,λb z=>?_,λb z=>I.oF b (qD z).1,λb z=>z.elim (I.zlv b) λq=>⟨o,q▸ho⟩,λb z=>I.olv b (qD z).1,I.flv,I.ok,I.nsL,λj sl e n=>?_⟩⟩
 .unfold iA;split
  .rfl
  .exact z.elim (I.zo b) λq=>absurd q ‹_›
 .exact z.elim (I.zl j k e) λq=>by have:=I.ol j k e;rw[q]at this;have this:=oa▸this;cases this
 .unfold iA;split
  .rfl
  .exact I.ol j k e
 .exact z.elim I.zL λq=>by have:=I.oL;have this:=q▸this;have this:=oa▸this;cases this
 .unfold iA;split
  .rfl
  .exact I.oL
 .exact z.elim (I.zF b) λq=>q▸I.oF a on
 .rcases eG e with⟨rfl,rfl⟩|⟨ip,e⟩
  .exact⟨l,.ref a,hl,hr,R⟩
  .obtain⟨k,v,hk,r,q⟩:=I.at' j sl e n
   refine⟨k,v,hk,r,q.mono (λac az cL e=>e) (λac z=>.inl z) (λb z=>?_) λac az cL e=>e⟩;unfold iA;split
   .rename_i w';rw[w',oa]at z;exact absurd (Y5 z).symm ip
   .exact z
theorem Step.freeze (oa:own a=some i):Step y bv own Z s (iA own a) (λb=>Z b\/b=a) s where
 sh:=⟨_,_,rfl⟩
 ext:=.refl _ _ _
 zm:=λac z=>.inl z
 zn:=λb z=>z.elim .inl λq=>.inr (.inl (by refine Er q (Er oa ?_);exact λn=>by cases n))
 on:=λb j e=>.inl (sy e).1
 bind:=λac az cL lS Ic r=>r
theorem Inv.chg (I:Inv y own Z h fr) {l:Loc} (hl:y.loc i=some l) (hk:∀a o,a≠l.addr->h.get? a=some o->h'.get? a=some o)
  (ho:∀j k w,j≠i->y.loc j=some k->im h k w->im h' k w) (hok:∀j k,y.loc j=some k->rH h' k) (Ir:∃m,h'.Ns y.L m):Inv y own Z h' (fr.set i .no):=by
 have kz:∀a o,Z a->h.get? a=some o->h'.get? a=some o:=λa o z e=>hk a o (λq=>I.zl i l hl (q▸z)) e
 have ko:∀a o,own a≠none->h.get? a=some o->h'.get? a=some o:=λa o z e=>hk a o (λq=>z (q▸I.ol i l hl)) e
 refine⟨I.wf,λa o e=>kz a o (I.zb a o e) (I.base a o e),I.zb,I.zo,I.zl,I.ol,I.zL,I.oL,I.zF,I.oF,λa z=>?_,λa z=>?_,λa f=>?_,hok,Ir,λj sl e n=>?_⟩
 .obtain⟨o,e⟩:=I.zlv a z;exact⟨o,kz a o z e⟩
 .obtain⟨o,e⟩:=I.olv a z;exact⟨o,ko a o z e⟩
 .obtain⟨o,Q⟩:=I.flv a f
  exact⟨o,hk a o (λq=>I.wf.nf i l hl (q▸f)) Q.1,Q.2⟩
 .rcases eG e with⟨rfl,rfl⟩|⟨ip,e⟩
  .exact absurd rfl n
  .obtain⟨k,w,f5,r,q⟩:=I.at' j sl e n
   exact⟨k,w,f5,ho j k w ip f5 r,q.mono kz (λac z=>z) (λac z=>z) λa o z=>ko a o (by refine Er z ?_;exact λn=>by cases n)⟩
theorem Inv.setSl {l:Loc} {v:Value} {sl:Slot} (I:Inv y own Z h' (fr.set i .no)) (hl:y.loc i=some l) (hr:im h' l v) (R:eD h' Z (λa=>own a=some i) sl v):Inv y own Z h' (fr.set i sl):=by
 refine {I with at':=λj wN e n=>?_}
 rcases eG e with⟨rfl,rfl⟩|⟨ip,e⟩
 .exact⟨l,v,hl,hr,R⟩
 .exact I.at' j wN (by refine Er (List.getElem?_set_ne (Ne.symm ip)) ?_;exact e) n
theorem Inv.setFz (I:Inv y own Z h fr) {l:Loc} {v:Value} {d:D} (hl:y.loc i=some l) (hk:∀a o,a≠l.addr->h.get? a=some o->h'.get? a=some o) (M5:∃o,h'.get? l.addr=some o)
  (hr:im h' l v) (ho:∀j k w,j≠i->y.loc j=some k->im h k w->im h' k w) (hok:∀j k,y.loc j=some k->rH h' k) (Ir:∃m,h'.Ns y.L m) (R:bS h Z v d):Inv y own Z h' (fr.set i (.fz d)):=
 (I.chg hl hk ho hok Ir).setSl hl hr (show bS h' Z v d from R.mono (λa o z e=>hk a o (λq=>I.zl i l hl (q▸z)) e) λac z=>z)
theorem v7:addO own a i a=some i:=by simp[addO]
theorem fI {b:Addr} (q:b≠a):addO own a i b=own b:=by simp[addO,q]
theorem Inv.setOwn (I:Inv y own Z h fr) {l:Loc} {d:D} (hl:y.loc i=some l) (hk:∀a o,a≠l.addr->h.get? a=some o->h'.get? a=some o)
  (hr:im h' l (.ref a)) (ho:∀j k w,j≠i->y.loc j=some k->im h k w->im h' k w) (hok:∀j k,y.loc j=some k->rH h' k) (Ir:∃m,h'.Ns y.L m)
  (nw:¬y.wr own a) (nf:¬y.F a) (nz:¬Z a) (w:cq h Z a d):Inv y (addO own a i) Z h' (fr.set i (.own d)):=by
 have kz:∀a o,Z a->h.get? a=some o->h'.get? a=some o:=λa o z e=>hk a o (λq=>I.zl i l hl (q▸z)) e
 have ko:∀a o,own a≠none->h.get? a=some o->h'.get? a=some o:=λa o z e=>hk a o (λq=>z (q▸I.ol i l hl)) e
 have ka:∀o,h.get? a=some o->h'.get? a=some o:=λo e=>hk a o (λq=>nw (.inr (.inr ⟨i,l,hl,q.symm⟩))) e
 have na:own a=none:=by
  cases e:own a with
  |none=>rfl
  |some j=>exact absurd (.inl (by refine Er e ?_;exact λn=>by cases n)) nw
 have nl:∀j k,y.loc j=some k->k.addr≠a:=λj k e q=>nw (.inr (.inr ⟨j,k,e,q⟩))
 obtain⟨oa,Ld⟩:=w.live;refine⟨I.wf,λa o e=>kz a o (I.zb a o e) (I.base a o e),I.zb,λb z=>?_,I.zl,λj k e=>?_,I.zL,?_,I.zF,λb z=>?_,λb z=>?_,λb z=>?_,λb f=>?_,hok,Ir,λj sl e n=>?_⟩
 .have q:b≠a:=λq=>nz (q▸z)
  exact Er (fI q) (I.zo b z)
 .exact Er (fI (nl j k e)) (I.ol j k e)
 .have q:y.L≠a:=λq=>nw (.inr (.inl q.symm))
  exact Er (fI q) I.oL
 .by_cases q:b=a
  .exact q▸nf
  .rw[fI q]at z;exact I.oF b z
 .obtain⟨o,e⟩:=I.zlv b z;exact⟨o,kz b o z e⟩
 .by_cases q:b=a
  .exact⟨oa,q▸ka oa Ld⟩
  .rw[fI q]at z;obtain⟨o,e⟩:=I.olv b z;exact⟨o,ko b o z e⟩
 .obtain⟨o,Q⟩:=I.flv b f
  exact⟨o,hk b o (λq=>I.wf.nf i l hl (q▸f)) Q.1,Q.2⟩
 .rcases eG e with⟨rfl,rfl⟩|⟨ip,e⟩
  .exact⟨l,.ref a,hl,hr,a,rfl,v7,w.mono kz (λac z=>z) ka⟩
  .obtain⟨k,w,f5,r,q⟩:=I.at' j sl e n
   refine⟨k,w,f5,ho j k w ip f5 r,q.mono kz (λac z=>z) (λb z=>?_) λa o z=>ko a o (by refine Er z ?_;exact λn=>by cases n)⟩;rw[fI]
   .exact z
   .intro q;rw[q,na]at z;exact ah z
theorem Inv.setC (I:Inv y own Z h fr) {d d':D} (hs:fr[i]? = some (.own d)) {l:Loc} (hl:y.loc i=some l) (hr:im h l (.ref a)) (oa:own a=some i)
  (hk:∀b o,b≠a->h.get? b=some o->h'.get? b=some o) (w:cq h' Z a d'):Inv y own Z h' (fr.set i (.own d')):=by
 have on:own a≠none:=by exact Er oa (λn=>by cases n)
 have kz:∀b o,Z b->h.get? b=some o->h'.get? b=some o:=λb o z e=>hk b o (λq=>on (q▸I.zo b z)) e
 have kl:∀j k,y.loc j=some k-> ∀o,h.get? k.addr=some o->h'.get? k.addr=some o:=λj k e o=>hk _ o λq=>on (q▸I.ol j k e)
 obtain⟨Cu,Ld⟩:=w.live;refine⟨I.wf,λa o e=>kz a o (I.zb a o e) (I.base a o e),I.zb,I.zo,I.zl,I.ol,I.zL,I.oL,I.zF,I.oF,λb z=>?_,λb z=>?_,λb f=>?_,λj k e=>(I.ok j k e).keeps (kl j k e),?_,λj sl e n=>?_⟩
 .obtain⟨o,e⟩:=I.zlv b z;exact⟨o,kz b o z e⟩
 .by_cases q:b=a
  .exact⟨Cu,q▸Ld⟩
  .obtain⟨o,e⟩:=I.olv b z;exact⟨o,hk b o q e⟩
 .obtain⟨o,Q⟩:=I.flv b f
  exact⟨o,hk b o (λq=>I.oF a on (q▸f)) Q.1,Q.2⟩
 .obtain⟨m,hn⟩:=I.nsL
  exact⟨m,hn.at' λo=>hk _ o λq=>on (q▸I.oL)⟩
 .rcases eG e with⟨rfl,rfl⟩|⟨ip,e⟩
  .exact⟨l,.ref a,hl,hr.keeps (kl _ _ hl),a,rfl,oa,w⟩
  .obtain⟨k,v,f5,r,q⟩:=I.at' j sl e n
   refine⟨k,v,f5,r.keeps (kl _ _ f5),q.mono kz (λac z=>z) (λac z=>z) λb o z e=>hk b o (λq=>?_) e⟩;rw[q,oa]at z;exact ip (Y5 z).symm
end
def cv (h:Heap) (Z:Addr->Prop) (v:Value) (d:D):Prop:=bS h Z v d\/ ∃a,v = .ref a/\cq h Z a d
section
variable {h h':Heap} {Z Z':Addr->Prop} {v:Value}
theorem bS.dat {d:D} (r:bS h Z v d):cv h Z v d:=.inl r
inductive F7 (v:Value) (i:Int):Prop
 |mk (t:_):v = .int i t->F7 v i
inductive F3 (v:Value) (x:Str):Prop
 |mk (t:_):v = .str x t->PyData.strOk x=true->x.cps.size<=Sz->F3 v x
inductive F5 (h:Heap) (Z:Addr->Prop) (v:Value) (ds:List D):Prop
 |mk (a:Addr) (vs:List Value) (n:Nat):v = .ref a->IsL h a vs.toArray n->vs.length<=Sz->ao h Z vs ds->F5 h Z v ds
inductive F0 (h:Heap) (Z:Addr->Prop) (v:Value) (ds:List D):Prop
 |mk (a:Addr) (vs:List Value) (n:Nat):v = .ref a->IsT h a vs.toArray n->vs.length<=Sz->ao h Z vs ds->Z a->F0 h Z v ds
inductive F6 (h:Heap) (Z:Addr->Prop) (v:Value) (ds:List (D×D)):Prop
 |mk (a:Addr) (kvs:List (Str×Value)):v = .ref a->iG h a kvs->kvs.length<=Sz->aP h Z kvs ds->F6 h Z v ds
def F4 (h:Heap) (Z:Addr->Prop) (v:Value):D->Prop
 |.none=>v = .none
 |.bool b=>v = .bool b
 |.int i=>F7 v i
 |.str x=>F3 v x
 |.list ds=>F5 h Z v ds
 |.tuple ds=>F0 h Z v ds
 |.dict ds=>F6 h Z v ds
theorem cv.q {d:D} (r:cv h Z v d):F4 h Z v d:=r.elim
 (λr=>bS.casesOn (motive_1:=λv d ac=>F4 h Z v d) r rfl (λac=>rfl) (λac t=>⟨t,rfl⟩) (λac t o l=>⟨t,rfl,o,l⟩) (λac g l r=>⟨_,_,_,rfl,g,l,r⟩) (λz g l r=>⟨_,_,_,rfl,g,l,r,z⟩) (λac g l r=>⟨_,_,rfl,g,l,r⟩))
 λ⟨a,e,w⟩=>Er e (cq.casesOn (motive:=λd ac=>F4 h Z (.ref a) d) w (λg l r=>⟨_,_,_,rfl,g,l,r⟩) (λg l r=>⟨_,_,rfl,g,l,r⟩))
theorem cv.none (r:cv h Z v .none):v = .none:=r.q
theorem cv.bool {b:Bool} (r:cv h Z v (.bool b)):v = .bool b:=r.q
theorem cv.int {i:Int} (r:cv h Z v (.int i)):F7 v i:=r.q
theorem cv.str {x:Str} (r:cv h Z v (.str x)):F3 v x:=r.q
theorem cv.list {ds:List D} (r:cv h Z v (.list ds)):F5 h Z v ds:=r.q
theorem cv.tuple {ds:List D} (r:cv h Z v (.tuple ds)):F0 h Z v ds:=r.q
theorem cv.dict {ds:List (D×D)} (r:cv h Z v (.dict ds)):F6 h Z v ds:=r.q
theorem cq.reads {d:D} (x:cq h Z a d) (e:noDict d=true):∃as,Reads h (.ref a) d as:=by
 cases x with
 |list g l r=>obtain⟨as,q⟩:=r.reads e;exact⟨_,.list g rfl rfl q⟩
 |dict g l r=>cases e
theorem cv.reads {d:D} (r:cv h Z v d) (e:noDict d=true):∃as,Reads h v d as:=by
 rcases r with r|⟨a,rfl,r⟩
 .exact r.reads e
 .exact r.reads e
theorem cv.canLay {d:D} (r:cv h Z v d) (e:noDict d=true):d.canLay0=true:=by
 rcases r with r|⟨a,rfl,r⟩
 .exact r.canLay e
 .cases r with
  |list g l r=>rw[canLay0];exact r.canLay (by simpa [noDict] using e)
  |dict g l r=>cases e
end
theorem aP.isSome {vs:List (Str×Value)} {ds:List (D×D)} (r:aP h Z vs ds):(valueAt vs k).isSome=(b5 ds k).isSome:=by
 rcases r.get (k:=k) with⟨h1,h2⟩|⟨v,d,h1,h2,_⟩<;>exact Er h1 (Er h2 rfl)<;>rfl
inductive um (Z:Addr->Prop) (h h':Heap):Rv->Value->Prop
 |old {d:D} {v:Value}:bS h' Z v d->um Z h h' (.fz d) v
 |new {a:Addr} {o:Obj} {d:D}:h.get? a=none->h'.get? a=some o->bS h' (λb=>Z b\/b=a) (.ref a) d->um Z h h' (.fz d) (.ref a)
 |own {a:Addr} {d:D}:h.get? a=none->cq h' Z a d->um Z h h' (.own d) (.ref a)
inductive Op (Z:Addr->Prop) (s:Shared) (r:Rv) (v:Value) (s':Shared):Prop
 |mk (h':Heap) (tk:Nat):s'={s with heap:=h',toks:=tk}->(∀b o,s.heap.get? b=some o->h'.get? b=some o)->um Z s.heap h' r v->Op Z s r v s'
theorem yK (h:Heap):h.get? h.objs.size=none:=by
 cases q:h.get? h.objs.size with
 |none=>rfl
 |some o=>exact absurd (ZV q) (lt_irrefl _)
theorem pK (o:Obj) (b:Addr) (x:Obj) (e:h.get? b=some x):(h.push o).get? b=some x:=ZY o e
section
variable {Z:Addr->Prop} {s:Shared}
theorem Op.val {d:D} {v:Value} (r:bS s.heap Z v d):Op Z s (.fz d) v s:=⟨s.heap,s.toks,rfl,λac az e=>e,.old r⟩
theorem Op.valT {d:D} {v:Value} (r:bS s.heap Z v d):Op Z s (.fz d) v {s with toks:=tk}:=⟨s.heap,tk,rfl,λac az e=>e,.old r⟩
theorem Op.bool {b:Bool}:Op Z s (.fz (.bool b)) (.bool b) s:=.val (.bool b)
theorem Op.int {i:Int} {t:Nat}:Op Z s (.fz (.int i)) (.int i t) {s with toks:=tk}:=.valT (.int i t)
theorem Op.newL {vs:List Value} {ds:List D} {n:Nat} (r:ao s.heap Z vs ds) (hl:vs.length≤Sz) :Op Z s (.own (.list ds)) (.ref s.heap.objs.size) {s with heap:=s.heap.push {cls:=.type "list",data:=.seq vs.toArray n}}:=
 ⟨_,s.toks,rfl,pK _,.own (yK _) (.list (ZX _ rfl) hl (r.mono (λa o ac e=>pK _ a o e) λac z=>z))⟩
theorem Op.newT {vs:List Value} {ds:List D} {n:Nat} (r:ao s.heap Z vs ds) (hl:vs.length≤Sz) :Op Z s (.fz (.tuple ds)) (.ref s.heap.objs.size) {s with heap:=s.heap.push {cls:=.type "tuple",data:=.seq vs.toArray n}}:=
 ⟨_,s.toks,rfl,pK _,.new (yK _) (ZX _ rfl) (.tuple (.inr rfl) (ZX _ rfl) hl (r.mono (λa o ac e=>pK _ a o e) λac z=>.inl z))⟩
end
theorem bb:Sz=sizeLine:=by decide
section
variable {A:Around} {E:Value->Shared->Prop} {s:Shared} {Z:Addr->Prop} {a b:Value}
set_option tactic.hygienic true in
theorem intBits_le {x:Int} (h:x.natAbs<2 ^ 64):Builtin.Int.intBits x<=64:=by
 unfold Builtin.Int.intBits
 split
 .exact Y8 _
 .rename_i q
  have hx:x.natAbs≠0:=by intro e;exact q (by simpa using e)
  exact(log2_lt hx).mpr h
theorem rQ {x z:Int} (h:pI x z=true):IntMulOk x z:=by
 rcases Bool.or_eq_true_iff.mp h with h|h
 .exact .of_left (intBits_le (YU h))
 .exact .of_right (intBits_le (YU h))
theorem nF {x z:Str} (h:PyData.strOk x=true) (k:PyData.strOk z=true):PyData.strOk (x++z)=true:=by
 unfold PyData.strOk at *;refine Er Array.all_append (Er h (Er k ?_));rfl
theorem nM (n:Int) (xs:List α):(rep n xs).length=xs.length*n.toNat:=by
 unfold rep;refine Er List.length_flatten ?_;simp[Zb]
theorem ux (xs:List Nat) (k:Nat) (aE:List Nat):(replicate k xs.toArray).foldl (· ++ ·) aE.toArray=(aE++(replicate k xs).flatten).toArray:=by
 induction k generalizing aE with
 |zero=>simp
 |succ k ih=>
  refine Er List.replicate_succ ?_;refine Er List.foldl_cons ?_;rw[append_toArray,ih,List.replicate_succ,flatten_cons,ZM]
set_option tactic.hygienic true in
theorem Ad (x:Str) (n:Int):Txt.mul x n=⟨(rep n x.cps.toList).toArray⟩:=by
 obtain⟨⟨l⟩⟩:=x;unfold Txt.mul rep
 split
 .rename_i h
  have e:n.toNat=0:=by omega
  refine Er e ?_;rfl
 .rename_i h
  split
  .rename_i q
   rcases Bool.or_eq_true_iff.mp q with q|q
   .have e:n=1:=by simpa using q
    subst e;simp
   .have e:l=[]:=by simpa [Str.length] using q
    subst e;simp
  .have:=ux l n.toNat []
   simpa using Y2 Str.mk this
theorem uA {x:Str} (n:Int) (h:PyData.strOk x=true):PyData.strOk ⟨(rep n x.cps.toList).toArray⟩=true:=by
 unfold PyData.strOk at *;rw[<- all_toList]at *;rw[ZN]at *;intro c hc;have qg:c∈rep n x.cps.toList:=by exact hc
 unfold rep at qg;obtain⟨l,hl,hm⟩:=List.mem_flatten.mp qg;rw[List.eq_of_mem_replicate hl]at hm;exact h c hm
set_option tactic.hygienic true in
theorem xw {x z:Int} (h:z.natAbs<2 ^ 64):Builtin.divisionGoesByPylong x z=false:=by
 unfold Builtin.divisionGoesByPylong;have:(if (z==0)=true then 0 else z.natAbs.log2 / 30+1)<=300:=by
  split
  .exact Y8 _
  .rename_i q
   have hz:z.natAbs≠0:=by intro e;exact q (by simpa using e)
   have:=(log2_lt hz).mpr h;exact(d7 [z.natAbs.log2 / (30:Nat),z.natAbs.log2,z.natAbs.log2 % (30:Nat)] [] 30 (.w (.p 1 .x) (.c 300)) [Gl (.p 1 .y) (.c 64),Ge (.a (.m 30 .x) .z) .y] rfl this (Nat.div_add_mod (z.natAbs.log2) 30))
 simp only;refine Er (Y1 (by exact(λKM=>(Lf [if (z==(0:Int))=true then(0:Nat) else z.natAbs.log2 / (30:Nat)+(1:Nat)] [Gl .x (.c 300),Gl (.p 1 (.c 300)) .x] rfl this KM)))) ?_
 rfl
theorem u3 {a b:Int} {r:Rv} (h:u4 a b=some r):pI a b=true/\ .fz (.int (a*b))=r:=d9 h
set_option tactic.hygienic true in
theorem Ee {o:lU} {op:Operator} {d e:D} {r:Rv} (ho:op=(match o with|.add=>.Add|.sub=>.Sub|.mul=>.Mult|.fdiv=>.FloorDiv|.mod=>.Mod|.pow=>.Pow)) (he:op2 o d e=some r) (ra:cv s.heap Z a d) (rb:cv s.heap Z b e):
  wpAny (model prog w) A (binaryOp op a b) (Op Z s r) E s:=by
 subst ho;cases o with
 |add=>
  cases d<;>first|exact ah he|(cases e<;>first|exact ah he|skip)
  .obtain⟨t,rfl⟩:=ra.int;obtain⟨u,rfl⟩:=rb.int
   obtain rfl:=aF he;exact add_int .int
  .obtain⟨t,rfl,o1,z1⟩:=ra.str;obtain⟨u,rfl,o2,z2⟩:=rb.str
   obtain⟨hz,rfl⟩:=d9 he;exact SB.add (λt' k=>.valT (.str _ t' (nF o1 o2) (by show(_++_:Array Nat).size<=_;rw[Array.size_append];exact hz))) (by rw[<- bb];exact hz)
  .obtain⟨l,vs,n,rfl,hl,hn,R⟩:=ra.list;obtain⟨l',F9,n',rfl,df,z6,R'⟩:=rb.list
   obtain⟨hz,rfl⟩:=d9 he;refine P.add_list hl df ?_ (by rw[Zj,Zj,R.length,R'.length,<- bb];exact hz);rw[append_toArray];exact .newL (R.append R') (by rw[ZE,R.length,R'.length];exact hz)
  .obtain⟨l,vs,n,rfl,hl,hn,R,zl⟩:=ra.tuple;obtain⟨l',F9,n',rfl,df,z6,R',Ny⟩:=rb.tuple
   obtain⟨hz,rfl⟩:=d9 he
   by_cases hv:vs=[]
   .subst hv;cases R
    exact concat_meets ⟨_,hl,rfl⟩ ⟨_,df,rfl⟩ noFill_tuple_add seq_tuple_add PySem.F.slot_tuple_add PySem.F.entry_tuple_add (PySem.F.args_tuple_add_2 _ _)
     (AutoSeq1.tuple___add___tuple_tuple_0 l _ n l' F9.toArray n' rfl) ⟨hl,df,.val (.tuple Ny df z6 R')⟩
   .by_cases hw:F9=[]
    .subst hw;cases R'
     rw[ZL];exact concat_meets ⟨_,hl,rfl⟩ ⟨_,df,rfl⟩ noFill_tuple_add seq_tuple_add PySem.F.slot_tuple_add PySem.F.entry_tuple_add (PySem.F.args_tuple_add_2 _ _)
      (AutoSeq1.tuple___add___tuple_tuple_1 l vs.toArray n l' _ n' (by simpa using hv) rfl) ⟨hl,df,.val (.tuple zl hl hn R)⟩
    .refine P.add_tuple hl df (by simpa using hv) (by simpa using hw) ?_ (by rw[Zj,Zj,R.length,R'.length,<- bb];exact hz)
     rw[append_toArray];exact .newT (R.append R') (by rw[ZE,R.length,R'.length];exact hz)
 |sub=>
  cases d<;>first|exact ah he|(cases e<;>first|exact ah he|skip)
  obtain⟨t,rfl⟩:=ra.int;obtain⟨u,rfl⟩:=rb.int;obtain rfl:=aF he;exact sub_int .int
 |mul=>
  cases d<;>first|exact ah he|(cases e<;>first|exact ah he|skip)
  .obtain⟨t,rfl⟩:=ra.int;obtain⟨u,rfl⟩:=rb.int
   obtain⟨hz,rfl⟩:=u3 he;exact PyProof.Rows.mul_int .int (rQ hz)
  .obtain⟨t,rfl,o1,z1⟩:=ra.str;obtain⟨u,rfl⟩:=rb.int
   rename_i x n;obtain⟨hz,rfl⟩:=d9 he;have hm:¬n<1->((n.toNat:Nat):Int)=n:=λq=>ZQ (by exact(Li [n] (.i (.c 0) .x) [Gi (.c 1) .x] rfl (Int.not_lt.mp q)))
   refine SB.mul ⟨by simp;exact⟨(Li [n] (.i (.g (.c 9223372036854775808)) .x) [Gi (.g (.c 1000000000)) .x] rfl hz.1),(Li [n] (.i (.p 1 .x) (.c 9223372036854775808)) [Gi .x (.c 1000000000)] rfl (hz.2).1)⟩,λq ac=>?_,λq ac=>?_⟩ λt' k=>?_
   .have h2:(x.length:Int)*n<=16777216:=by
     have:((x.cps.size*n.toNat:Nat):Int)<=((16777216:Nat):Int):=ofNat_le.mpr hz.2.2;rw[Int.natCast_mul,hm q]at this;exact this
    have h3:(x.length:Int)<=(2 ^ 63-1) / n:=Int.le_ediv_of_mul_le (by exact(Li [n] (.i (.p 1 (.c 0)) .x) [Gi (.c 1) .x] rfl (Int.not_lt.mp q))) (by omega);exact(λxQ=>(dW [x.length] [((2:Int) ^ (63:Nat)-(1:Int)) / n] [Gi (.n .x) .x,Gi (.p 1 .x) (.n .x)] rfl h3 xQ))
   .unfold Builtin.Str.tooLong
    have h2:x.length*n.toNat<=16777216:=hz.2.2;rw[show sizeLine=16777216 from rfl];simp;exact h2
   .rw[Ad]
    exact .valT (.str _ t' (uA n o1) (by show(rep n x.cps.toList).toArray.size<=_;rw[Zj,nM,Z8];exact hz.2.2))
 |fdiv=>
  cases d<;>first|exact ah he|(cases e<;>first|exact ah he|skip)
  obtain⟨t,rfl⟩:=ra.int;obtain⟨u,rfl⟩:=rb.int;obtain⟨hz,rfl⟩:=d9 he;exact floordiv_int hz.1 .int (.inl (xw hz.2))
 |mod=>
  cases d<;>first|exact ah he|(cases e<;>first|exact ah he|skip)
  obtain⟨t,rfl⟩:=ra.int;obtain⟨u,rfl⟩:=rb.int;obtain⟨hz,rfl⟩:=KV he;exact mod_int hz .int
 |pow=>
  cases d<;>first|exact ah he|(cases e<;>first|exact ah he|skip)
  obtain⟨t,rfl⟩:=ra.int;obtain⟨u,rfl⟩:=rb.int;obtain⟨hz,rfl⟩:=d9 he;exact pow_int_small hz.1 (by omega) hz.2.2 .int
theorem Ak (x z:Str):(x==z)=(x.cps.toList==z.cps.toList):=by
 obtain⟨⟨l⟩⟩:=x;obtain⟨⟨k⟩⟩:=z
 by_cases q:l=k
 .subst q;simp
 .have h1:((⟨⟨l⟩⟩:Str)==⟨⟨k⟩⟩)=false:=by
   rw[beq_eq_false_iff_ne];intro e;apply q;injection e with e;injection e
  refine Er h1 ?_;symm;simpa using q
theorem i7 {d e:D} {b:Bool} (h:mP d e=some b):b=eqv d e/\(noDict d=true/\noDict e=true/\min d.depth e.depth<=64):=by
 have k:∀ {a b:D} {x:Bool},(if qB a b then some (eqv a b) else none)=some x->x=eqv a b/\(noDict a=true/\noDict b=true/\min a.depth b.depth<=64):=λq=>by
  have Q:=d9 q;refine Er Q.2 ?_;have q:=Q.1;unfold qB at q;exact⟨rfl,by simpa [Z7,and_assoc] using q⟩
 cases d<;>first
  |exact k h
  |(cases e<;>first
   |exact k h
   |(cases h;refine⟨?_,⟨rfl,rfl,by show _<=64;exact Zf (Nat.min_le_left _ _) (by rw[depth];decide)⟩⟩;rw[eqv];done)
   |(refine Er (aF h).symm ?_;refine⟨?_,⟨rfl,rfl,by show _<=64;exact Zf (Nat.min_le_left _ _) (by rw[depth];decide)⟩⟩;rw[eqv,Ak];done))
set_option tactic.hygienic true in
theorem ij {x:D}:∀ {ds:List D} {b:Bool},iE x ds=some b->b=ds.any (λy=>eqv y x)/\noDicts ds=true/\min (depthAll ds) x.depth<=64:=by
 intro ds b h
 induction ds generalizing b with
 |nil=>refine Er (aF h).symm ?_;simp[noDicts,depthAll]
 |cons d ds ih=>
  unfold iE at h
  split at h
  .exact ah h
  .rename_i c hc
   split at h
   .exact ah h
   .rename_i c' qg
    refine Er (aF h).symm ?_;refine⟨by exact Er any_cons (Er ((i7 hc).1) (Er ((ih qg).1) rfl)),by simp[noDicts,(i7 hc).2.1,(ih qg).2.1],?_⟩;simp only[depthAll];exact(Nat.le_total (depth d) (depthAll ds)).elim (λq=>by refine Er (Nat.max_eq_right q) ?_;exact(ih qg).2.2) (λq=>by refine Er (Nat.max_eq_left q) ?_;exact(i7 hc).2.2.2)
theorem Fg {d e:D} (he:mP d e=some b') (ra:cv s.heap Z a d) (rb:cv s.heap Z b e) (hu:A.units+64<cLine):wpAny (model prog w) A (compareOp .Eq a b) (Op Z s (.fz (.bool b'))) E s:=by
 have q:=i7 he;refine Er q.1 ?_;obtain⟨as,qa⟩:=ra.reads q.2.1;obtain⟨bs,qb⟩:=rb.reads q.2.2.1;exact SeqAt.compareEq_reads qa qb (ra.canLay q.2.1) (rb.canLay q.2.2.1) (Ln [A.5,min (depth d) (depth e),cLine] (.w (.p 1 (.a .x .y)) .z) [Gl (.p 1 (.p 64 .x)) .z,Gl .y (.c 64)] rfl hu q.2.2.2) .bool
theorem Fe {d e:D} (he:mP d e=some b') (ra:cv s.heap Z a d) (rb:cv s.heap Z b e) (hu:A.units+64<cLine):wpAny (model prog w) A (compareOp .NotEq a b) (Op Z s (.fz (.bool (!b')))) E s:=by
 have q:=i7 he;refine Er q.1 ?_;obtain⟨as,qa⟩:=ra.reads q.2.1;obtain⟨bs,qb⟩:=rb.reads q.2.2.1;exact SeqAt.compareNe_reads qa qb (ra.canLay q.2.1) (rb.canLay q.2.2.1) (Ln [A.5,min (depth d) (depth e),cLine] (.w (.p 1 (.a .x .y)) .z) [Gl (.p 1 (.p 64 .x)) .z,Gl .y (.c 64)] rfl hu q.2.2.2) .bool
theorem i9 (x:Str) (c:Nat):(!(Builtin.Str.occurrences x ⟨#[c]⟩ 0 x.length 1).isEmpty)=x.cps.toList.contains c:=by
 rw[StrLaws.found_one]
 by_cases q:c∈x.cps.toList
 .exact Er (Y0 q) ((contains_iff_mem.mpr q).symm)
 .refine Er (Y1 q) ?_;symm;rw[eq_false_iff];exact λz=>q (contains_iff_mem.mp z)
inductive JP:D->D->Bool->Prop
 |list {x:D} {xs:List D} {b:Bool} (h:noDict x=true) (e:iE x xs=some b):JP x (.list xs) b
 |tuple {x:D} {xs:List D} {b:Bool} (h:noDict x=true) (e:iE x xs=some b):JP x (.tuple xs) b
 |str {c:Nat} {z:Str}:JP (.str ⟨#[c]⟩) (.str z) (z.cps.toList.contains c)
 |dict {t:Str} {kvs:List (D×D)}:JP (.str t) (.dict kvs) (b5 kvs t).isSome
theorem MQ {x e:D} {b:Bool} (h:n5 x e=some b):JP x e b:=by
 cases e with
 |list xs=>
  by_cases q:noDict x=true
  .exact .list q ((YV q).symm.trans h)
  .exact ah ((YW q).symm.trans h)
 |tuple xs=>
  by_cases q:noDict x=true
  .exact .tuple q ((YV q).symm.trans h)
  .exact ah ((YW q).symm.trans h)
 |str z=>cases x with
  |str t=>
   obtain⟨⟨l⟩⟩:=t;cases l with
   |nil=>exact ah h
   |cons c r=>cases r with
    |nil=>exact aF h▸ .str
    |cons=>exact ah h
  |_=>exact ah h
 |dict kvs=>cases x with
  |str t=>exact aF h▸ .dict
  |_=>exact ah h
 |_=>exact ah h
theorem tB {xs:List D} (h:noDicts xs=true):noDict (.list xs)=true:=by rw[noDict];exact h
theorem pC {xs:List D} (h:noDicts xs=true):noDict (.tuple xs)=true:=by rw[noDict];exact h
theorem ub {xs:List D} (h:canLay0 (.list xs)=true):canLayAll0 xs=true:=by rwa [canLay0]at h
theorem qM {xs:List D} (h:canLay0 (.tuple xs)=true):canLayAll0 xs=true:=by rwa [canLay0]at h
theorem j8 {u m:Nat} (hu:u+66<cLine) (h:m<=64):u+1+m<cLine:=by exact(Ln [u,m,cLine] (.w (.p 1 (.a (.p 1 .x) .y)) .z) [Gl (.p 1 (.p 66 .x)) .z,Gl .y (.c 64)] rfl hu h)
theorem Ff {d e:D} (he:n5 d e=some b') (ra:cv s.heap Z a d) (rb:cv s.heap Z b e) (hu:A.units+66<cLine):wpAny (model prog w) A (compareOp .In a b) (Op Z s (.fz (.bool b'))) E s:=by
 cases MQ he with
 |@list _ xs _ hd h=>
  obtain⟨rfl,h1,h2⟩:=ij h;obtain⟨as,qa⟩:=ra.reads hd;obtain⟨bs,qb⟩:=rb.reads h1;exact SeqAt.in_list_reads qb qa (ub (rb.canLay (tB h1))) (ra.canLay hd) (j8 hu h2) .bool
 |@tuple _ xs _ hd h=>
  obtain⟨rfl,h1,h2⟩:=ij h;obtain⟨as,qa⟩:=ra.reads hd;obtain⟨bs,qb⟩:=rb.reads h1;exact SeqAt.in_tuple_reads qb qa (qM (rb.canLay (pC h1))) (ra.canLay hd) (j8 hu h2) .bool
 |str=>
  obtain⟨u,rfl,_,_⟩:=ra.str;obtain⟨u',rfl,_,_⟩:=rb.str;exact P.in_str (by rw[i9];exact .bool)
 |dict=>
  obtain⟨u,rfl,_,_⟩:=ra.str;obtain⟨l,kv,rfl,hd,hl,R⟩:=rb.dict;exact wpAny_in_of (knd:=strKind prog w) (strKind_is _ _ _ u) hd.1 hd.2.mapOf (Er R.isSome (.valT (.bool _)))
theorem vV {d e:D} (he:n5 d e=some b') (ra:cv s.heap Z a d) (rb:cv s.heap Z b e) (hu:A.units+66<cLine):wpAny (model prog w) A (compareOp .NotIn a b) (Op Z s (.fz (.bool (!b')))) E s:=by
 cases MQ he with
 |@list _ xs _ hd h=>
  obtain⟨rfl,h1,h2⟩:=ij h;obtain⟨as,qa⟩:=ra.reads hd;obtain⟨bs,qb⟩:=rb.reads h1;exact SeqAt.notIn_list_reads qb qa (ub (rb.canLay (tB h1))) (ra.canLay hd) (j8 hu h2) .bool
 |@tuple _ xs _ hd h=>
  obtain⟨rfl,h1,h2⟩:=ij h;obtain⟨as,qa⟩:=ra.reads hd;obtain⟨bs,qb⟩:=rb.reads h1;exact SeqAt.notIn_tuple_reads qb qa (qM (rb.canLay (pC h1))) (ra.canLay hd) (j8 hu h2) .bool
 |str=>
  obtain⟨u,rfl,_,_⟩:=ra.str;obtain⟨u',rfl,_,_⟩:=rb.str;exact SB.notContains (by unfold Txt.contains;rw[i9];exact .bool)
 |dict=>
  obtain⟨u,rfl,_,_⟩:=ra.str;obtain⟨l,kv,rfl,hd,hl,R⟩:=rb.dict;exact wpAny_notIn_of (knd:=strKind prog w) (strKind_is _ _ _ u) hd.1 hd.2.mapOf (Er R.isSome (.valT (.bool _)))
theorem ov {d e:D} (he:KR d e=some b') (ra:cv s.heap Z a d) (rb:cv s.heap Z b e):plainIs a b=true/\(a==b)=b':=by
 cases e with
 |none=>
  obtain rfl:=rb.none;cases d with
  |none=>refine Er ra.none ?_;refine Er (aF he).symm ?_;exact⟨rfl,rfl⟩
  |bool p=>refine Er ra.bool ?_;refine Er (aF he).symm ?_;exact⟨rfl,rfl⟩
  |int i=>obtain⟨t,rfl⟩:=ra.int;exact Er (aF he).symm (⟨rfl,rfl⟩)
  |str x=>obtain⟨t,rfl,_⟩:=ra.str;obtain rfl:=aF he;exact⟨rfl,rfl⟩
  |list x=>obtain⟨t,_,_,rfl,_⟩:=ra.list;obtain rfl:=aF he;exact⟨rfl,rfl⟩
  |tuple x=>obtain⟨t,_,_,rfl,_⟩:=ra.tuple;refine Er (aF he).symm ?_;exact⟨rfl,rfl⟩
  |dict x=>exact ah he
 |bool q=>
  refine Er rb.bool ?_;cases d with
  |none=>refine Er ra.none ?_;obtain rfl:=aF he;exact⟨rfl,rfl⟩
  |bool p=>refine Er ra.bool ?_;refine Er (aF he).symm ?_;exact⟨rfl,by cases p<;>cases q<;>rfl⟩
  |int i=>obtain⟨t,rfl⟩:=ra.int;exact Er (aF he).symm (⟨rfl,rfl⟩)
  |str x=>obtain⟨t,rfl,_⟩:=ra.str;refine Er (aF he).symm ?_;exact⟨rfl,rfl⟩
  |list x=>obtain⟨t,_,_,rfl,_⟩:=ra.list;exact Er (aF he).symm (⟨rfl,rfl⟩)
  |tuple x=>obtain⟨t,_,_,rfl,_⟩:=ra.tuple;refine Er (aF he).symm ?_;exact⟨rfl,rfl⟩
  |dict x=>exact ah he
 |int i=>cases d<;>exact ah he
 |str i=>cases d<;>exact ah he
 |list i=>cases d<;>exact ah he
 |tuple i=>cases d<;>exact ah he
 |dict i=>cases d<;>exact ah he
noncomputable def fg:Cm->CmpOp
 |.eq=>.Eq|.ne=>.NotEq|.lt=>.Lt|.le=>.LtE|.gt=>.Gt|.ge=>.GtE|.isin=>.In|.notin=>.NotIn|.is=>.Is|.isnot=>.IsNot
theorem jy {o:Cm} {d e:D} (he:ag o d e=some b') (ra:cv s.heap Z a d) (rb:cv s.heap Z b e) (hu:A.units+66<cLine):
  wpAny (model prog w) A (compareOp (fg o) a b) (Op Z s (.fz (.bool b'))) E s:=by
 cases o with
 |eq=>exact Fg he ra rb (L1 [A.5,cLine] (.p 1 (.p 64 .x)) .y (.p 1 (.p 66 .x)) .y rfl hu)
 |ne=>
  obtain⟨c,hc,rfl⟩:=Z9 he;exact Fe hc ra rb (L1 [A.5,cLine] (.p 1 (.p 64 .x)) .y (.p 1 (.p 66 .x)) .y rfl hu)
 |lt=>
  cases d<;>first|exact ah he|(cases e<;>first|exact ah he|skip)
  obtain rfl:=aF he;obtain⟨t,rfl⟩:=ra.int;obtain⟨u,rfl⟩:=rb.int;exact lt_int .bool
 |le=>
  cases d<;>first|exact ah he|(cases e<;>first|exact ah he|skip)
  obtain rfl:=aF he;obtain⟨t,rfl⟩:=ra.int;obtain⟨u,rfl⟩:=rb.int;exact PyProof.Rows.le_int .bool
 |gt=>
  cases e<;>first|exact ah he|(cases d<;>first|exact ah he|skip)
  obtain rfl:=aF he;obtain⟨t,rfl⟩:=ra.int;obtain⟨u,rfl⟩:=rb.int;exact gt_int .bool
 |ge=>
  cases e<;>first|exact ah he|(cases d<;>first|exact ah he|skip)
  obtain rfl:=aF he;obtain⟨t,rfl⟩:=ra.int;obtain⟨u,rfl⟩:=rb.int;exact PyProof.Rows.ge_int .bool
 |isin=>exact Ff he ra rb hu
 |notin=>
  obtain⟨c,hc,rfl⟩:=Z9 he;exact vV hc ra rb hu
 |is=>
  exact wpAny_is_plain (ov he ra rb).1 (by refine Er (ov he ra rb).2 ?_;exact .bool)
 |isnot=>
  obtain⟨c,hc,rfl⟩:=Z9 he;exact wpAny_isNot_plain (ov hc ra rb).1 (by refine Er (ov hc ra rb).2 ?_;exact .bool)
theorem iX {d:D} (ra:cv s.heap Z a d) {Q:Bool->Shared->Prop} (h:∀tk,Q (tD d) {s with toks:=tk}):wpAny (model prog w) A (truthy a) Q E s:=by
 cases d with
 |none=>exact Er ra.none (λac az cL=>h s.toks)
 |bool b=>exact Er ra.bool (wpAny_truthy_bool (h s.toks))
 |int i=>obtain⟨t,rfl⟩:=ra.int;exact PyProof.Rows.truthy_int (h s.toks)
 |str x=>
  refine aM λG g=>?_
  obtain⟨t,rfl,_,hz⟩:=ra.str;refine g ?_;refine P.truthy_str (λxS=>(Lf [x.length] [Gl .x (.c 16777216),Gi (.c 9223372036854775808) (.n .x)] rfl hz xS)) ?_;have e:((x.length:Int) != 0)=tD (.str x):=by
   show _=(x.cps.size != 0)
   show((x.cps.size:Int) != 0)=_
   cases x.cps.size with
   |zero=>rfl
   |succ n=>rfl
  exact Er e (h _)
 |list ds=>
  obtain⟨l,vs,n,rfl,hl,hn,R⟩:=ra.list;refine wpAny_truthy_list hl.isList (by refine Er Zj ?_;simp only[Sz]at hn;exact(Ln [vs.length] (.i (.p 1 (.n .x)) (.c 9223372036854775808)) [Gl .x (.c 16777216)] rfl hn)) ?_;have e:(!vs.toArray.isEmpty)=tD (.list ds):=by
   cases R<;>rfl
  exact Er e (h _)
 |tuple ds=>
  obtain⟨l,vs,n,rfl,hl,hn,R,_⟩:=ra.tuple;refine truthy_tuple ⟨_,hl,rfl,_,rfl⟩ (by refine Er Zj ?_;simp only[Sz]at hn;exact(Ln [vs.length] (.i (.p 1 (.n .x)) (.c 9223372036854775808)) [Gl .x (.c 16777216)] rfl hn)) ?_;have e:(!vs.toArray.isEmpty)=tD (.tuple ds):=by
   cases R<;>rfl
  exact Er e (h _)
 |dict kvs=>
  obtain⟨l,kv,rfl,hd,hn,R⟩:=ra.dict;refine wpAny_truthy_dict (knd:=strKind prog w) hd.1 hd.2 (by simp only[Sz]at hn;exact(Ln [kv.length] (.i (.p 1 (.n .x)) (.c 9223372036854775808)) [Gl .x (.c 16777216)] rfl hn)) ?_;have e:(!kv.isEmpty)=tD (.dict kvs):=by cases R<;>rfl
  exact Er e (h _)
theorem Ea {d:D} (ra:cv s.heap Z a d):wpAny (model prog w) A (unaryOp .Not a) (Op Z s (.fz (.bool (!tD d)))) E s:=
 not_of (iX ra λtk=>.valT (.bool _))
theorem Eb {d e:D} (he:xy d=some e) (ra:cv s.heap Z a d):wpAny (model prog w) A (unaryOp .USub a) (Op Z s (.fz e)) E s:=by
 unfold xy at he;refine aM λG g=>?_
 split at he<;>cases he
 obtain⟨t,rfl⟩:=ra.int;refine g ?_;exact PyProof.Rows.neg_int .int
set_option tactic.hygienic true in
theorem seqIndex_of {xs:List α} {i:Int} {x:α} (h:aW xs i=some x):∃k,seqIndex? i xs.length=some k/\xs[k]? = some x:=by
 unfold aW at h;unfold seqIndex?
 split at h
 .rename_i q
  have hk:=(List.getElem?_eq_some_iff.mp h).1;refine⟨i.toNat,?_,h⟩;have e:(if i<0 then i+(xs.length:Int) else i)=i:=YW (by exact(λxM=>(dW [] [i] [Gi (.c 0) .x,Gi (.p 1 .x) (.c 0)] rfl q xM)));simp only[e];exact Er (YV (by simp;exact⟨q,(d7 [xs.length,i.toNat] [i] 1 (.i (.p 1 .x) (.n .x)) [Gl (.p 1 .y) .x,Gk (.n .y) .x] rfl hk (ZQ (a:=i) q))⟩)) rfl
 .split at h
  .rename_i q1 q2
   have hk:=(List.getElem?_eq_some_iff.mp h).1;refine⟨(i+xs.length).toNat,?_,h⟩;simp only[(YV (Int.not_le.mp q1):(if i<0 then i+(xs.length:Int) else i)=i+xs.length)];exact Er (YV (by simp;exact⟨q2,(d7 [xs.length] [i] 1 (.i (.p 1 (.a .x (.n .x))) (.n .x)) [Gi (.p 1 .x) (.c 0)] rfl (Int.not_le.mp q1))⟩)) rfl
  .exact ah h
set_option tactic.hygienic true in
theorem jA {xs:List α} {i:Int} {x:α} (h:aW xs i=some x) (hz:xs.length<=Sz): -(2 ^ 63:Int)<=i/\i<2 ^ 63:=by
 unfold aW at h;simp only[Sz]at hz
 split at h
 .rename_i q
  exact⟨Int.le_trans (by decide) q,Int.lt_trans ((Int.toNat_lt q).mp (Ze (List.getElem?_eq_some_iff.mp h).1 hz)) (by decide)⟩
 .split at h
  .rename_i q1 q2
   have q3:(-16777216:Int)<=i:=by exact(d7 [xs.length] [i] 1 (.i (.g (.c 16777216)) .x) [Gl .x (.c 16777216),Gi (.c 0) (.a .x (.n .x))] rfl hz q2)
   exact⟨Int.le_trans (by decide) q3,Int.lt_trans (Int.not_le.mp q1) (by decide)⟩
  .exact ah h
theorem rF {d e r:D} (he:fU d e=some r) (ra:cv s.heap Z a d) (rb:cv s.heap Z b e):
  ∃T id,s.TypeIs a T∧typeLookup (.type T) "__getitem__" = pure (some (.builtin id))∧wpAny (model prog w) A (getItem a b) (Op Z s (.fz r)) E s:=by
 cases d with
 |list ds=>
  cases e with
  |int i=>
   have he:aW ds i=some r:=he;obtain⟨l,vs,n,rfl,hl,hn,R⟩:=ra.list;obtain⟨t,rfl⟩:=rb.int;refine⟨_,_,⟨_,hl,rfl⟩,slot_list_getitem.lookup,?_⟩;have hb:=jA he (by refine Er R.length.symm ?_;exact hn);unfold aW at he
   split at he
   .refine aQ (R.get he) λv z=>?_
    exact wpAny_getItem_list hl.isList (by assumption) hb.2 (by simpa using z.1) (.val z.2)
   .split at he
    .exact aQ (R.get he) λv q=>(wpAny_getItem_list_neg hl.isList (Int.not_le.mp ‹¬(0:Int)<=i›) (by refine Er Zj (Er R.length ?_);exact(d7 [ds.length] [i] 1 (.i (.g (.n .x)) .x) [Gi (.c 0) (.a .x (.n .x))] rfl ‹(0:Int)<=i+(↑ds.length:Int)›)) hb.1 (by refine Er Zj (Er R.length ?_);simpa using q.1) (.val q.2))
    .exact ah he
  |_=>exact ah he
 |tuple ds=>
  cases e with
  |int i=>
   obtain⟨l,vs,n,rfl,hl,hn,R,zl⟩:=ra.tuple;obtain⟨t,rfl⟩:=rb.int;refine⟨_,_,⟨_,hl,rfl⟩,slot_tuple_getitem.lookup,?_⟩;have hb:=jA he (by refine Er R.length.symm ?_;exact hn);refine aQ (seqIndex_of he) λk j=>?_
   refine aQ (R.get j.2) λv Q=>?_
   exact P.getItem_tuple hl hb.1 hb.2 (by refine Er Zj (Er R.length ?_);exact j.1) (by simpa using Q.1) (.val Q.2)
  |_=>exact ah he
 |str x=>
  cases e with
  |int i=>
   refine aQ (Z9 he) λc J=>?_;obtain rfl:=J.2
   obtain⟨t,rfl,ho,hz⟩:=ra.str;obtain⟨u,rfl⟩:=rb.int;have hb:=jA J.1 (by refine Er Z8 ?_;exact hz);refine aQ (seqIndex_of J.1) λk U=>?_;have hk:=U.1;have hx:=U.2
   have Nh:Txt.charAt x i=some c:=by
    unfold Txt.charAt;refine Er (show seqIndex? i x.length=some k from by rw[Z8]at hk;exact hk) ?_;show x.cps[k]? = some c
    exact Er (Array.getElem?_toList).symm hx
   refine⟨_,_,rfl,slot_str_getitem.lookup,SB.getItem (by show(!(decide (i < -(2 ^ 63:Int))||decide (i>=2 ^ 63)))=true;simp;exact⟨(hb.1),(hb.2)⟩) (by refine Er Nh ?_;rfl) ?_⟩;have e:Txt.item x i=⟨#[c]⟩:=by unfold Txt.item;refine Er Nh ?_;rfl
   refine Er e ?_;refine .valT (.str _ _ ?_ (by show 1<=16777216;exact(L0 [] (.c 1) (.c 16777216) rfl)));unfold PyData.strOk at ho ⊢;rw[<- all_toList,ZN]at ho
   simpa using ho c (Zm hx)
  |_=>exact ah he
 |dict kvs=>
  cases e with
  |str k=>
   have he:b5 kvs k=some r:=he;obtain⟨l,kv,rfl,hd,hn,R⟩:=ra.dict;obtain⟨t,rfl,_,_⟩:=rb.str;refine aM λG g1=>?_
   rcases R.get (k:=k) with⟨h1,h2⟩|⟨v,d',h1,h2,rv⟩
   .refine g1 ?_
    have he:=h1▸he;exact ah he
   .refine g1 ?_
    rw[h1]at he;exact Er (aF he).symm (⟨_,_,hd.2.typeIs,slot_dict_getitem.lookup,wpAny_getItem_of (knd:=strKind prog w) (strKind_is _ _ k t) hd.2.mapOf h2 (.valT rv)⟩)
  |_=>exact ah he
 |_=>exact ah he
theorem lG (n:Nat) (i:Int):b3 n i=clipAt n i:=rfl
theorem nV {v:Value} {d:D} {l:Nat} (r:cv s.heap Z v d) (h:A5 n d=some l):∃k:Option Int,IsPart v k/\l=k.elim 0 (clipAt n):=by
 cases d<;>first|exact ah h|refine Er (aF h).symm ?_
 .exact Er r.none (⟨none,.none,rfl⟩)
 .obtain⟨t,rfl⟩:=r.int;exact⟨some _,.int _ t,lG _ _⟩
theorem n8 {v:Value} {d:D} {l:Nat} (r:cv s.heap Z v d) (h:Br n d=some l):∃k:Option Int,IsPart v k/\l=k.elim n (clipAt n):=by
 cases d<;>first|exact ah h|refine Er (aF h).symm ?_
 .exact Er r.none (⟨none,.none,rfl⟩)
 .obtain⟨t,rfl⟩:=r.int;exact⟨some _,.int _ t,lG _ _⟩
theorem kM {v:Value} {k:Option Int} {Q:Option Int->Shared->Prop} (p:IsPart v k) (h:Q k s):wpAny (model prog w) A (Builtin.Slice.slicePartIndex v) Q E s:=by
 cases p with
 |none=>exact slicePart_none h
 |int i t=>exact slicePart_int h
set_option tactic.hygienic true in
theorem Jy (n:Nat) (i:Int):(if i<0 then max (i+(n:Int)) 0 else min i (n:Int))=((clipAt n i:Nat):Int):=by
 rw[clipAt_cast];split
 .rename_i h;rw[Int.max_comm];exact Er (Int.min_eq_left (Int.le_trans (Int.add_le_add_right (Int.le_of_lt h) n) (Int.le_of_eq (ZP _)))) rfl
 .rename_i h;exact(Int.max_eq_right (Int.le_min.mpr ⟨Int.not_lt.mp h,ZS n⟩)).symm
theorem sR (lo hi:Option Int) (n:Nat):Builtin.Slice.sliceAdjust lo hi 1 (n:Int)=(((lo.elim 0 (clipAt n):Nat):Int),((hi.elim n (clipAt n):Nat):Int)):=by
 unfold Builtin.Slice.sliceAdjust;have h1:¬((1:Int)<0):=by exact(λrP=>(Lf [] [Gi (.p 1 (.c 1)) (.c 0)] rfl rP))
 simp only[h1,if_false]
 congr 1
 .cases lo with
  |none=>rfl
  |some i=>simp only[elim];exact Jy n i
 .cases hi with
  |none=>rfl
  |some i=>simp only[elim];exact Jy n i
set_option tactic.hygienic true in
theorem ry (a b:Nat):Builtin.Slice.slicePlaces (a:Int) (b:Int) 1=b-a:=by
 unfold Builtin.Slice.slicePlaces;have h1:(1:Int) > 0:=by exact(Ln [] (.i (.p 1 (.c 0)) (.c 1)) [] rfl)
 simp only[h1,if_true,Int.ediv_one]
 split
 .rw[Int.sub_add_cancel];exact Int.toNat_sub b a
 .rename_i h;exact(Nat.sub_eq_zero_of_le (ofNat_le.mp (Int.not_lt.mp h))).symm
theorem jp {sl:Addr} {lo hi:Option Int} {Q:Int×Int×Nat->Shared->Prop} (hs:s.heap.IsSliceOf sl vl vu .none) (pl:IsPart vl lo) (pu:IsPart vu hi)
  (h:Q (((lo.elim 0 (clipAt n):Nat):Int),1,hi.elim n (clipAt n)-lo.elim 0 (clipAt n)) s):wpAny (model prog w) A (Builtin.Slice.sliceApplied (.ref sl) (pure (n:Int))) Q E s:=by
 refine aQ (id hs) λos q=>?_
 unfold Builtin.Slice.sliceApplied Builtin.Slice.sliceFields;refine YS (YS (wpAny_field q.1 q.2.2 (x:=vl) rfl (YS (wpAny_field q.1 q.2.2 (x:=vu) rfl (YS (wpAny_field q.1 q.2.2 (x:=.none) rfl (YO ?_)))))));refine YS (slicePart_none ?_);refine Er (YW (by decide)) ?_;refine YS (kM pl (YS (kM pu (YS (YO ?_)))));show wpAny _ _ (match Builtin.Slice.sliceAdjust lo hi 1 (n:Int) with|(lo,hi)=>pure (lo,(1:Int),Builtin.Slice.slicePlaces lo hi 1)) _ _ s
 rw[sR];show wpAny _ _ (pure (_,(1:Int),Builtin.Slice.slicePlaces _ _ 1)) _ _ s
 rw[ry];exact YO h
theorem w7 (xs:Array Value) (a k:Nat):((List.range k).filterMap λ(j:Nat)=>xs[((a:Int)+(j:Int)*1).toNat]?).toArray=((xs.toList.drop a).take k).toArray:=by
 have e:(λ(j:Nat)=>xs[((a:Int)+(j:Int)*1).toNat]?)=λj=>xs[a+j]?:=by
  funext j
  have:((a:Int)+(j:Int)*1).toNat=a+j:=by rw[Int.mul_one];rfl
  exact Er this rfl
 refine Er e ?_;have:=pick_run xs a k;rw[List.filterMap_map]at this;exact Y2 List.toArray this
set_option tactic.hygienic true in
theorem ir {t sl:Addr} {items:Array Value} {lo hi:Option Int} {Q:Value->Shared->Prop} (ht:IsTup s.heap t items) (hs:s.heap.IsSliceOf sl vl vu .none) (pl:IsPart vl lo) (pu:IsPart vu hi)
  (h0:lo.elim 0 (clipAt items.size)=0->hi.elim items.size (clipAt items.size)=items.size->Q (.ref t) s)
  (h:Q (.ref s.heap.objs.size) {s with heap:=s.heap.push {cls:=.type "tuple",data:=.seq ((items.toList.drop (lo.elim 0 (clipAt items.size))).take (hi.elim items.size (clipAt items.size) - lo.elim 0 (clipAt items.size))).toArray}})
  (hsz:items.size<=sizeLine):wpAny (model prog w) A (getItem (.ref t) (.ref sl)) Q E s:=by
 have tL:sizeOk (.seq ((items.toList.drop (lo.elim 0 (clipAt items.size))).take (hi.elim items.size (clipAt items.size)-lo.elim 0 (clipAt items.size))).toArray):=by
  show _<=sizeLine
  exact Er Zj (Er Zw (Er ZC (Er Z8 (Zf (Zf (Zc _ _) (sub_le _ _)) hsz))))
 refine aM λG g=>?_
 refine aQ (id hs) λos z=>?_
 refine g ?_;unfold getItem
 try with_reducible refine wpAny_holding ?_
 first|refine YS (YO ?_)|skip
 refine YS (wpAny_sequenceKey ht.typeIs (by decide) ?_);refine YS (wpAny_callSpecial?_slot (name:=Str.ofString "__getitem__") ht.typeIs slot_tuple_getitem
  (wpAny_call_entry slot_tuple_getitem ht.typeIs entry_tuple_getitem ?_ (args_tuple_getitem _ _)))
 show wpAny _ _ (Builtin.Tuple.tupleItemsOf (.ref t) >>= _) _ _ s
 refine YS (tupleItemsOf_ ht ?_);refine YS (wpAny_typeOf (⟨os,z.1,z.2.1⟩) ?_);refine Er (YV (by decide)) ?_;refine YS (jp hs pl pu ?_);generalize Lj:lo.elim 0 (clipAt items.size)=p at *;generalize EG:hi.elim items.size (clipAt items.size)=q at *;show wpAny _ _ (if ((p:Int)==0&&(1:Int)==1&&(q-p)==items.size)=true then _ else _) _ _ s
 split
 .rename_i hc
  simp only[Z7,beq_iff_eq]at hc;have hp:p=0:=by exact(Le [p] (.e .x (.c 0)) [Gr (.n .x) (.c 0)] rfl (hc.1).1)
  have hq:q=items.size:=by exact(Le [q,items.size,p,q-p] (.e .x .y) [Gr (.n .z) (.c 0),Gp .u .y,Gq (.a .u .z) .x] rfl (hc.1).1 hc.2 (Za (n:=q) (m:=p) (Ln [p,q,q-p] (.w .x .y) [Ge (.a .z .x) .y] rfl (Za (n:=q) (m:=p) (Ln [p,q] (.w .x .y) [Gj (.n .x) (.c 0)] rfl (hc.1).1)))))
  unfold Builtin.Tuple.tupleIsExact;exact YS (YS (wpAny_typeOf ht.typeIs (YO (Er (YV (by decide)) (YS (wpAny_rule (YO ⟨_,rfl,YO (h0 hp hq)⟩)))))))
 .rw[w7]
  first
   |exact YS (m:=Builtin.Tuple.tupleExact _) (YQ (YO ⟨_,rfl,YO h⟩) tL)
   |exact YS (m:=Builtin.Tuple.tupleExact _) (YQ (YS (YO (YO ⟨_,rfl,YO h⟩))) tL)
   |exact YS (YS (m:=Builtin.Tuple.tupleExact _) (YQ (YO (YO ⟨_,rfl,YO h⟩)) tL))
   |exact YS (YS (m:=Builtin.Tuple.tupleExact _) (YQ (YO ⟨_,rfl,YO h⟩) tL))
theorem Op.after {r:Rv} {v:Value} {h₁:Heap} (k:∀b o,s.heap.get? b=some o->h₁.get? b=some o) (p:Op Z {s with heap:=h₁} r v s'):Op Z s r v s':=by
 obtain⟨h',tk,rfl,k',q⟩:=p;refine⟨h',tk,rfl,λb o e=>k' b o (k b o e),?_⟩;have old:∀a,h₁.get? a=none->s.heap.get? a=none:=λa e=>by
  cases q:s.heap.get? a with
  |none=>rfl
  |some o=>have e:=(k a o q)▸e;cases e
 cases q with
 |old r=>exact .old r
 |new e e' r=>exact .new (old _ e) e' r
 |own e r=>exact .own (old _ e) r
theorem pn {v:Value} {k:Option Int} (p:IsPart v k):∃l:Option (Int×Tok),v=partValue l/\k=l.map (·.1):=by
 cases p with
 |none=>exact⟨none,rfl,rfl⟩
 |int i t=>exact⟨some (i,t),rfl,rfl⟩
set_option tactic.hygienic true in
theorem xk {d l h:D} {r:Rv} (he:eS d l h=some r) (ra:cv s.heap Z a d) (rl:cv s.heap Z vl l) (rh:cv s.heap Z vu h):
  ∃T id,({s with heap:=s.heap.push {cls:=.type "slice",data:=.fields #[vl,vu,.none]}} :Shared).TypeIs a T∧typeLookup (.type T) "__getitem__" = pure (some (.builtin id))∧
   wpAny (model prog w) A (getItem a (.ref s.heap.objs.size)) (Op Z s r) E {s with heap:=s.heap.push {cls:=.type "slice",data:=.fields #[vl,vu,.none]}}:=by
 unfold eS at he
 split at he
 .obtain⟨l,vs,n,rfl,hl,hn,R⟩:=ra.list
  split at he
  .rename_i p q hp hq
   obtain rfl:=aF he;rw [← R.length] at hp hq;obtain ⟨kl,pl,rfl⟩:=nV rl hp;obtain ⟨kh,ph,rfl⟩:=n8 rh hq;refine ⟨_,_,⟨_,pK _ _ _ hl,rfl⟩,slot_list_getitem.lookup,wpAny_getItem_list_slice (s:= {s with heap:=s.heap.push _}) (IsL.push hl _).isList (Heap.IsSliceOf.new ..) pl ph .none (by simp) ?_ (by rw [Zj,← bb]; exact hn)⟩;rw [slicePick_plain];refine .after (h₁:=s.heap.push {cls:=.type "slice",data:=.fields #[vl,vu,.none]}) (pK _) ?_;simp only [Zj];exact .newL (((R.drop _).take _).mono (fun a o ac e=>pK _ a o e) fun ac z=>z) (by rw [Zw,ZC]; exact Zf (Zf (Zc _ _) (sub_le _ _)) hn)
  .exact ah he
 .obtain⟨l,vs,n,rfl,hl,hn,R,zl⟩:=ra.tuple
  split at he
  .rename_i p q hp hq
   refine Er (aF he).symm ?_;rw[<- R.length]at hp hq;obtain⟨kl,pl,rfl⟩:=nV rl hp;obtain⟨kh,ph,rfl⟩:=n8 rh hq;refine⟨_,_,⟨_,pK _ _ _ hl,rfl⟩,slot_tuple_getitem.lookup,ir (s:= {s with heap:=s.heap.push _}) ⟨_,IsT.push hl _,rfl,_,rfl⟩ (Heap.IsSliceOf.new ..) pl ph (λh1 h2=>?_) ?_ (by rw[Zj,<- bb];exact hn)⟩
   .refine .after (h₁:=s.heap.push {cls:=.type "slice",data:=.fields #[vl,vu,.none]}) (pK _) (.val ?_)
    rw[Zj]at h1 h2;unfold cB;rw[h1,h2,ZI,Y9,take_of_length_le (by rw[R.length];exact Zg _)];exact .tuple zl (IsT.push hl _) hn (R.mono (λa o ac e=>pK _ a o e) λac z=>z)
   .refine .after (h₁:=s.heap.push {cls:=.type "slice",data:=.fields #[vl,vu,.none]}) (pK _) ?_
    simp only[Zj];exact .newT (((R.drop _).take _).mono (λa o ac e=>pK _ a o e) λac z=>z) (by rw[Zw,ZC];exact Zf (Zf (Zc _ _) (sub_le _ _)) hn)
  .exact ah he
 .rename_i x
  obtain⟨t,rfl,ok,hn⟩:=ra.str
  split at he
  .rename_i p q hp hq
   cases he;obtain⟨kl,pl,rfl⟩:=nV rl hp;obtain⟨kh,U⟩:=n8 rh hq;obtain rfl:=U.2;obtain⟨l,rfl,rfl⟩:=(pn pl)
   obtain ⟨u,Q⟩:=(pn U.1); obtain rfl:=Q.1; obtain rfl:=Q.2;refine ⟨"str",_,YT _ _ _,PySem.F.slot_str_getitem.lookup,wpAny_getItem_str_slice (s:= {s with heap:=s.heap.push _}) (l:=l) (u:=u) (st:=none) ⟨_,ZX _ rfl,rfl,rfl⟩ rfl (post_val_or_str ?_)⟩;show (Txt.slice x (l.map (·.1)) (u.map (·.1))).length≤sizeLine∧ ∀t' k,Op Z s _ (.str (Txt.slice x (l.map (·.1)) (u.map (·.1))) t') _
   rw[wM];have hl:(cB x.cps.toList ((l.map (·.1)).elim 0 (clipAt x.cps.size)) ((u.map (·.1)).elim x.cps.size (clipAt x.cps.size))).length<=Sz:=by
    unfold cB;exact Er Zw (Er ZC (Er Z8 (Zf (Zf (Zc _ _) (sub_le _ _)) hn)))
   refine ⟨by show length _≤_; rw [← bb]; exact hl,fun t' k=>?_⟩;refine .after (h₁:=s.heap.push {cls:=.type "slice",data:=.fields #[partValue l,partValue u,.none]}) (pK _) ?_;exact .valT (.str _ t' (nQ (gE ok) fun c hc=>BS hc) hl)
  .exact ah he
 .exact ah he
end
end Mv
namespace Mv
open PySem PySem.Builtin PySem.Builtin.Str PyProof.Rows
variable [Hp]
section
variable {A:Around} {E:Value->Shared->Prop} {s:Shared} {Z:Addr->Prop} {v v':Value}
theorem Op.newLt {vs:List Value} {ds:List D} {n tk:Nat} (r:ao s.heap Z vs ds) (hl:vs.length≤Sz) :Op Z s (.own (.list ds)) (.ref s.heap.objs.size) {s with heap:=s.heap.push {cls:=.type "list",data:=.seq vs.toArray n},toks:=tk}:=
 ⟨_,tk,rfl,pK _,.own (yK _) (.list (ZX _ rfl) hl (r.mono (λa o ac e=>pK _ a o e) λac z=>z))⟩
theorem Op.newTt {vs:List Value} {ds:List D} {n tk:Nat} (r:ao s.heap Z vs ds) (hl:vs.length≤Sz) :Op Z s (.fz (.tuple ds)) (.ref s.heap.objs.size) {s with heap:=s.heap.push {cls:=.type "tuple",data:=.seq vs.toArray n},toks:=tk}:=
 ⟨_,tk,rfl,pK _,.new (yK _) (ZX _ rfl) (.tuple (.inr rfl) (ZX _ rfl) hl (r.mono (λa o ac e=>pK _ a o e) λac z=>.inl z))⟩
def Gz (x:Str):Prop:=PyData.strOk x=true/\x.cps.size<=Sz
theorem wY:∀ {l:List (Str×Tok)},(∀x∈l.map (·.1),Gz x)->ao s.heap Z (strValues l) ((l.map (·.1)).map .str):=by
 intro l
 induction l with
 |nil=>exact @λac=>.nil
 |cons p0 l ih=>obtain⟨x,t⟩:=p0;exact @λh=>.cons (.str x t (h x Zn).1 (h x Zn).2) (ih (hG h))
theorem Em (ls:List (List Nat)):(ls.map λl=>(⟨l.toArray⟩:Str)).map str=ls.map sT:=by refine Er Zs ?_;rfl
theorem xj {x y:Str} {r:Rv} (he:dD .split [.str x,.str y]=some r) (ra:cv s.heap Z v (.str x)) (rb:cv s.heap Z v' (.str y)):
  wpAny (model prog w) A (call (.builtin "str.split") [v,v']) (Op Z s r) E s:=by
 obtain⟨t,rfl,ok,hn⟩:=ra.str;obtain⟨u,rfl,_,_⟩:=rb.str;obtain⟨⟨yl⟩⟩:=y
 match yl,he with
 |[c],he=>
  obtain⟨⟨hz,hc⟩,rfl⟩:=d9 he;have hsz:x.length+2<=sizeLine:=by exact Er bb.symm hz
  have key:∀(l:List (Str × Tok)) (k:Nat),l.map (·.1) = Txt.split x ⟨#[c]⟩→Op Z s (.own (.list ((ak c x.cps.toList).map sT))) (.ref s.heap.objs.size) {s with heap:=s.heap.push {cls:=.type "list",data:=.seq (strValues l).toArray},toks:=k}:=fun l k e=>by
   rw[wL x c hc]at e;rw[<- Em];refine Er e.symm ?_;refine .newLt (wY λy hy=>?_) ?_
   .have hy:=e▸hy
    obtain⟨p,hp,rfl⟩:=mem_map.mp hy;have:=uB c _ p hp;exact⟨nQ (gE ok) this.2,Zf (by have h:=this.1;rw[Z8]at h;exact h) hn⟩
   .have:=Y2 length e
    rw[ZB,ZB]at this;have h:=split_len c x.cps.toList;rw[Z8]at h;show(l.map λp=>Value.str p.1 p.2).length<=Sz
    rw[ZB];exact Er this (Zf h (Nat.le_of_succ_le hz))
  have z6:(partsBetween x (occurrences x ⟨#[c]⟩ 0 x.length (x.length+1)) (⟨#[c]⟩:Str).length).length<=sizeLine:=by
   rw[length_partsBetween];exact(Ln [(occurrences x {cps:=#[c]} (0:Nat) x.length (x.length+1)).length,sizeLine,x.length] (.w (.p 1 .x) .y) [Gl (.p 2 .z) .y,Gl .x (.p 1 .z)] rfl hsz (StrLaws.occ_length_le x ⟨#[c]⟩ 0 x.length (x.length+1)))
  cases h1:(decide (x.length<(⟨#[c]⟩:Str).length)||decide (PySem.Builtin.Str.strKind x<PySem.Builtin.Str.strKind ⟨#[c]⟩))
  .cases hf:(occurrences x ⟨#[c]⟩ 0 x.length (x.length+1)).isEmpty
   .refine call_meets PySem.F.slot_str_split (YT _ _ _) PySem.F.entry_str_split (PySem.F.args_str_split_2 _ _) (meets_str_split_sep x ⟨#[c]⟩ t u h1 rfl hf (L1 [x.length,sizeLine] .x .y (.p 2 .x) .y rfl hsz) z6) ?_
    rw[strsFrom_eq];exact key (numbered s.toks _) _ ((numbered_texts _ _).trans ((YW (ne_true_of_eq_false h1)).trans (YW (ne_true_of_eq_false hf))).symm)
   .exact call_meets PySem.F.slot_str_split (YT _ _ _) PySem.F.entry_str_split (PySem.F.args_str_split_2 _ _) (meets_str_split_not_found x ⟨#[c]⟩ t u h1 rfl hf)
     (key [(x,t)] s.toks ((YW (ne_true_of_eq_false h1)).trans (YV hf)).symm)
  .exact call_meets PySem.F.slot_str_split (YT _ _ _) PySem.F.entry_str_split (PySem.F.args_str_split_2 _ _) (meets_str_split_cannot_occur x ⟨#[c]⟩ t u h1) (key [(x,t)] s.toks (YV h1).symm)
theorem AT {x y:Str} {r:Rv} (he:dD .part [.str x,.str y]=some r) (ra:cv s.heap Z v (.str x)) (rb:cv s.heap Z v' (.str y)):
  wpAny (model prog w) A (call (.builtin "str.partition") [v,v']) (Op Z s r) E s:=by
 obtain⟨t,rfl,ok,hn⟩:=ra.str;obtain⟨u,rfl,NP,Oi⟩:=rb.str;have he:(if y.cps.size=0 then none else match cz y.cps.toList x.cps.toList with
  |some (a,b)=>some (Rv.fz (.tuple [sT a,.str y,sT b]))
  |none=>some (.fz (.tuple [.str x,sT [],sT []])))=some r:=he
 by_cases hy:y.cps.size=0
 .have he:=(YV hy)▸he;exact ah he
 have he:=(YW hy)▸he;have MS:y.cps.toList≠ []:=λz=>hy (by refine Er length_toList.symm (Er z ?_);rfl)
 have hr:r = .fz (.tuple [.str (Txt.partition x y).1,.str (Txt.partition x y).2.1,.str (Txt.partition x y).2.2])/\Gz (Txt.partition x y).1/\Gz (Txt.partition x y).2.1/\Gz (Txt.partition x y).2.2:=by
  refine Er (AO x y MS) ?_;refine aM λG g=>?_
  rcases eW _ MS x.cps.toList with⟨g1,_⟩|⟨j,g1,_,_⟩
  .refine g ?_
   rw[g1]at he ⊢;exact Er (aF he) (⟨rfl,⟨ok,hn⟩,⟨(gF []).mpr λc hc=>(nomatch hc),Y8 _⟩,⟨(gF []).mpr λc hc=>(nomatch hc),Y8 _⟩⟩)
  .refine g ?_
   rw[g1]at he ⊢;refine Er (aF he) ?_;refine⟨rfl,⟨nQ (gE ok) λc hc=>mem_of_mem_take hc,?_⟩,⟨NP,Oi⟩,nQ (gE ok) λc hc=>List.mem_of_mem_drop hc,?_⟩
   .show(x.cps.toList.take j).length<=_;exact Er Zw (Er Z8 (Ln [Min.min j x.cps.size,x.cps.size] (.w .x (.c 16777216)) [Gl .y (.c 16777216),Gl .x .y] rfl hn (Zc j x.cps.size)))
   .show(x.cps.toList.drop _).length<=_;exact Er ZC (Er Z8 (Zf (sub_le _ _) hn))
 refine Er hr.1 ?_;refine call_meets PySem.F.slot_str_partition (YT _ _ _) PySem.F.entry_str_partition (PySem.F.args_str_partition_2 _ _) (meets_str_partition x y t u (beq_eq_false_iff_ne.mpr hy) (by refine Er bb.symm ?_; exact hn)) ?_;have key:∀ta tb tc k,Op Z s (.fz (.tuple [.str (Txt.partition x y).1,.str (Txt.partition x y).2.1,.str (Txt.partition x y).2.2])) (.ref s.heap.objs.size) {s with heap:=s.heap.push {cls:=.type "tuple",data:=.seq [Value.str (Txt.partition x y).1 ta,.str (Txt.partition x y).2.1 tb,.str (Txt.partition x y).2.2 tc].toArray},toks:=k}:=fun ta tb tc k=>
  .newTt (.cons (.str _ _ hr.2.1.1 hr.2.1.2) (.cons (.str _ _ hr.2.2.1.1 hr.2.2.1.2) (.cons (.str _ _ hr.2.2.2.1 hr.2.2.2.2) .nil))) (Zh rfl)
 revert key;unfold Txt.partition;cases occurrences x y 0 x.length 1 with
 |nil=>intro key;exact key _ _ _ _
 |cons i r=>intro key;exact key _ _ _ _
theorem wH {ds:List D} {ks:List Str} (r:ao s.heap Z vs ds) (h:dG ds=some ks):∃l:List (Str×Tok),vs=strValues l/\l.map (·.1)=ks/\ ∀k∈ks,Gz k:=by
 refine ao.ind (P:=λvs ds=> ∀ks,dG ds=some ks-> ∃l:List (Str×Tok),vs=strValues l/\l.map (·.1)=ks/\ ∀k∈ks,Gz k) (λks h=>?_) (fun {v vs d ds} a r ih ks h=>?_) r ks h
 .exact⟨[],rfl,Y5 h,λk hk=>by have hk:=(Y5 h).symm▸hk;cases hk⟩
 .cases a with
  |str x t ok hn=>
   obtain⟨js,hj,rfl⟩:=Z9 h;obtain⟨l,rfl,e,hk⟩:=ih js hj;refine⟨(x,t)::l,rfl,by exact Er Zt (Er e rfl),λk m=>?_⟩
   rcases mem_cons.mp m with rfl|m
   .exact⟨ok,hn⟩
   .exact hk k m
  |_=>exact ah h
set_option tactic.hygienic true in
theorem AU {c:Str} {d:D} {r:Rv} {t:Tok} (he:dD .join [.str c,d]=some r) (ok:PyData.strOk c=true) (rb:cv s.heap Z v' d):
  wpAny (model prog w) A (call (.builtin "str.join") [.str c t,v']) (Op Z s r) E s:=by
 cases d<;>first|exact ah he|skip
 rename_i ds;obtain⟨a,vs,n,rfl,hl,hn,R⟩:=rb.list;have he:(match dG ds with
  |some ks=>if (ks.map λ(k:Str)=>k.cps.size).sum+ks.length*c.cps.size<=Sz then some (Rv.fz (sT (au c.cps.toList (ks.map λ(k:Str)=>k.cps.toList)))) else none
  |none=>none)=some r:=he
 cases hs:dG ds with
 |none=>have he:=hs▸he;exact ah he
 |some ks=>
  rw[hs]at he;obtain⟨hz,rfl⟩:=d9 he;obtain⟨l,rfl,rfl,hk⟩:=wH R hs;have hok:tooLong ((l.map (·.1)).toArray.foldl (· + ·.length+c.length) 0)=false:=by
   rw[StrLaws.joinTotal];show decide (_ > sizeLine)=false
   rw[Y1];exact Er bb.symm (Nat.not_lt.mpr hz)
  have hj:Txt.join c (l.map (·.1))=⟨(au c.cps.toList ((l.map (·.1)).map λ(k:Str)=>k.cps.toList)).toArray⟩:=by
   apply dm;show(glued c (l.map (·.1))).cps.toList=_
   rw[StrLaws.glued_eq_join,Bh]
  refine call_meets PySem.F.slot_str_join (YT _ _ _) PySem.F.entry_str_join (PySem.F.args_str_join_2 _ _) (meets_str_join_list c t a l hok) ⟨⟨_,hl,rfl,_,rfl⟩,post_join l ⟨joinFit_length hok,λt' k=>?_⟩⟩;have bH:=joinFit_length hok;rw[hj]at bH ⊢;refine .valT (.str _ t' ((gF _).mpr λd hd=>?_) (by refine Er bb ?_;exact bH))
  rcases yh hd with hd|⟨x,hx,hd⟩
  .exact gE ok d hd
  .obtain⟨k,f5,rfl⟩:=mem_map.mp hx
   exact gE (hk k f5).1 d hd
theorem D9 {a:Int} {r:Rv} (he:dD .str [.int a] = some r) (ra:cv s.heap Z v (.int a)) :wpAny (model prog w) A (call (.type "str") [v]) (Op Z s r) E s:=by
 obtain⟨t,rfl⟩:=ra.int;obtain⟨⟨h1,h2⟩,rfl⟩:=d9 he;refine PySem.P.str_of_int ?_ ?_
 .by_cases q:a.natAbs=0
  .refine Er q ?_;decide
  .exact Ze ((log2_lt q).mpr (Ze h1 (show 10 ^ 18<=2 ^ 60 by decide))) (by decide)
 .have e:(Str.ofString (toString a))=⟨(cK a).toArray⟩:=dm (by rw[wP])
  exact Er e (.valT (.str _ _ ((gF _).mpr (wI a)) (Zf h2 (by decide))))
theorem AV {x:Str} {r:Rv} (he:dD .int [.str x] = some r) (ra:cv s.heap Z v (.str x)) :wpAny (model prog w) A (call (.type "int") [v]) (Op Z s r) E s:=by
 obtain⟨t,rfl,_,_⟩:=ra.str;have he:(if x.cps.size<=640 then(nZ x.cps.toList).map λi=>Rv.fz (.int i) else none)=some r:=he
 by_cases q:x.cps.size<=640
 .have he:=(YV q)▸he
  refine aQ (Z9 he) λi Q=>?_;refine Er Q.2.symm ?_
  exact PySem.W.KIN.call_text (ym Q.1 q) q .int
 .have he:=(YW q)▸he;exact ah he
end
end Mv
namespace Mv
open PySem PySem.Builtin PySem.Builtin.Str PyProof.Rows
theorem Dk:((List.range 128).all λc=>decide (Unicode.upperOf c=[qW c]))=true:=by decide +kernel
theorem oO (x:Str) (h:∀c∈x.cps.toList,c<128):Txt.upper x=⟨(x.cps.toList.map qW).toArray⟩:=by
 apply dm;show(placed x λac c=>Unicode.upperOf c).toList=_
 unfold placed;obtain⟨⟨l⟩⟩:=x;refine Er Array.toList_flatten (Er Array.toList_mapIdx ?_);show(List.map toList (mapIdx (λi c=>(Unicode.upperOf c).toArray) l)).flatten=l.map qW
 have e:∀(l:List Nat) (f:Nat->Nat->Array Nat),(∀c∈l, ∀i,f i c = #[qW c])->(List.map toList (mapIdx f l)).flatten=l.map qW:=by
  intro l
  induction l with
  |nil=>intro f _;rfl
  |cons a l ih=>
   intro f hf;refine Er List.mapIdx_cons (Er Zt (Er flatten_cons (Er (hf a Zn 0) (Er (ih (λi=>f (i+1)) λc hc i=>hf c (Zo _ hc) (i+1)) ?_))));rfl
 refine e l _ λc hc i=>?_
 have:=all_eq_true.mp Dk c (mem_range.mpr (h c hc));exact Er (YU this) rfl
theorem kx:∀(p r:List Nat),10∉r->(ak 10 (p++10::r)).getLastD []=r:=by
 intro p r h
 induction p generalizing r h with
 |nil=>
  have e:∀r:List Nat,10∉r->ak 10 r=[r]:=by
   intro r
   induction r with
   |nil=>intro _;rfl
   |cons a r ih=>
    intro h;unfold ak;exact Er (YW (λ(z:a=10)=>h (z▸Zn))) (Er (ih λm=>h (Zo _ m)) rfl)
  show(ak 10 (10::r)).getLastD []=r
  unfold ak;refine Er (YV rfl) (Er (e r h) ?_);rfl
 |cons a p IH=>
  have ih:=IH r h;refine Er cons_append ?_;unfold ak
  by_cases q:a=10
  .refine Er (YV q) ?_
   cases e:ak 10 (p++10::r) with
   |nil=>rw[e]at ih;refine Er ih.symm ?_;rfl
   |cons w ws=>rw[e]at ih;exact ih
  .refine Er (YW q) ?_
   have two:∀p:List Nat, ∃w v ws,ak 10 (p++10::r)=w::v::ws:=by
    intro p
    induction p with
    |nil=>
     show ∃w v ws,ak 10 (10::r)=w::v::ws
     unfold ak;refine Er (YV rfl) ?_;cases e:ak 10 r with
     |nil=>exact absurd e (by cases r with|nil=>exact λz=>by cases z|cons b r=>unfold ak;split<;>(try split)<;>exact λz=>by cases z)
     |cons v ws=>exact⟨_,_,_,rfl⟩
    |cons b p ih=>
     refine jm ih λw v ws e=>?_
     refine Er cons_append ?_;unfold ak;refine Er e ?_
     split
     .exact⟨_,_,_,rfl⟩
     .exact⟨_,_,_,rfl⟩
   refine jm (two p) λw v ws e=>?_
   rw[e]at ih ⊢;exact ih
theorem ku (r:List Nat) (h:10∉r):(ak 10 r).getLastD []=r:=by
 have e:ak 10 r=[r]:=by
  induction r with
  |nil=>rfl
  |cons a r ih=>
   unfold ak;exact Er (YW (λ(z:a=10)=>h (z▸Zn))) (Er (ih λm=>h (Zo _ m)) rfl)
 refine Er e ?_;rfl
theorem wX (x:Str) (h1:1<=x.cps.size):(match lastOccurrence x ⟨#[10]⟩ 0 (min ((x.cps.size:Int)-1).toNat x.length) with|some i=>(i:Int)|none=>-1)=(x.cps.size:Int)-1-(eH x.cps.toList).length-1:=by
 have hm:min ((x.cps.size:Int)-1).toNat x.length=x.cps.size-1:=by unfold Str.length;exact(Le [Min.min ((↑x.cps.size:Int)-(1:Int)).toNat x.cps.size,x.cps.size-(1:Nat),((↑x.cps.size:Int)-(1:Int)).toNat,x.cps.size] (.e .x .y) [Gp .x .z,Gq (.p 1 .y) .u,Gr (.n .z) (.s (.n .u) (.c 1))] rfl (Zd (a:=((↑x.cps.size:Int)-(1:Int)).toNat) (b:=x.cps.size) (Ln [((↑x.cps.size:Int)-(1:Int)).toNat,x.cps.size] (.w .x .y) [Gj (.n .x) (.s (.n .y) (.c 1))] rfl (ZQ (a:=(↑x.cps.size:Int)-(1:Int)) (Ln [x.cps.size] (.i (.c 0) (.s (.n .x) (.c 1))) [Gl (.c 1) .x] rfl h1)))) (Za (n:=x.cps.size) (m:=1) h1) (ZQ (a:=(↑x.cps.size:Int)-(1:Int)) (Ln [x.cps.size] (.i (.c 0) (.s (.n .x) (.c 1))) [Gl (.c 1) .x] rfl h1)))
 refine Er hm ?_;generalize EG:x.cps.size-1=hi;have hd:x.cps.toList.dropLast=x.cps.toList.take hi:=by exact Er List.dropLast_eq_take (Er Z8 (Er EG rfl))
 have hl:(x.cps.toList.take hi).length=hi:=by exact Er Zw (Er Z8 ((Zd (a:=hi) (b:=x.cps.size) (Ln [hi,x.cps.size,x.cps.size-1] (.w .x .y) [Gf .z .x,Ge (.p 1 .z) .y] rfl EG (Za (n:=x.cps.size) (m:=1) h1)))))
 rw[StrLaws.last_eq];have key:=StrLaws.last_run x ⟨#[10]⟩ hi (range' 0 (hi+1-0)) [] none (λac h=>nomatch h) (λac h=>nomatch h) (List.pairwise_lt_range' (s:=0) (n:=hi+1-0));have mem:∀i,StrLaws.At x ⟨#[10]⟩ hi i->i∈ []++range' 0 (hi+1-0):=λi hA=>by have:=hA.1;simp[List.mem_range'];omega
 have Ju:∀i,StrLaws.At x ⟨#[10]⟩ hi i↔(x.cps.toList.take hi)[i]? = some 10:=λi=>by
  unfold StrLaws.At;rw[zD];refine Er YZ ?_;refine Er (List.getElem?_take) ?_
  constructor
  .rintro ⟨a,b⟩;exact Er (YV (by exact(L1 [i,hi] (.p 1 .x) .y (.p 1 .x) .y rfl a))) b
  .intro b
   by_cases q:i<hi
   .have b:=(YV q)▸b;exact⟨q,b⟩
   .have b:=(YW q)▸b;exact ah b
 unfold eH;refine Er hd ?_;generalize hL:x.cps.toList.take hi=L at *;cases hr:(forIn (range' 0 (hi+1-0)) none (StrLaws.lastBody x ⟨#[10]⟩ hi)).run with
 |none=>
  have key:=hr▸key;have HI:10∉L:=λm=>by
   refine aM λG g1=>?_
   refine aQ (List.getElem?_of_mem m) λi Gn=>?_
   refine g1 ?_;exact key i (mem i ((Ju i).mpr Gn)) ((Ju i).mpr Gn)
  exact Er (ku L HI) (Er hl (Le [x.cps.size,hi,x.cps.size-(1:Nat)] (.j (.g (.c 1)) (.s (.s (.s (.n .x) (.c 1)) (.n .y)) (.c 1))) [Gq .z .y,Gp (.p 1 .z) .x] rfl EG (Za (n:=x.cps.size) (m:=1) h1)))
 |some i=>
  have key:=hr▸key;have Gn:=(Ju i).mp key.1;have e:L=L.take i++10::L.drop (i+1):=by
   exact Er ((List.getElem?_eq_some_iff.mp Gn).2).symm ((List.take_append_drop i L).symm.trans (Er (ZJ ((List.getElem?_eq_some_iff.mp Gn).1)) rfl))
  have HI:10∉L.drop (i+1):=λm=>by
   refine aM λG1 g2=>?_
   refine aQ (List.getElem?_of_mem m) λj hj=>?_
   rw[List.getElem?_drop]at hj;refine g2 ?_;exact key.2 _ (mem _ ((Ju _).mpr hj)) (L0 [i,j] (.p 1 .x) (.a (.p 1 .x) .y) rfl) ((Ju _).mpr hj)
  have hs:(ak 10 L).getLastD []=L.drop (i+1):=by
   have:=kx (L.take i) _ HI;rw[<- e]at this;exact this
  exact Er hs (Er ZC (Er hl (Le [i,x.cps.size,hi-(i+(1:Nat)),x.cps.size-(1:Nat),hi] (.j (.n .x) (.s (.s (.s (.n .y) (.c 1)) (.n .z)) (.c 1))) [Gq .u (.v 4),Gp (.a .z (.p 1 .x)) (.v 4),Gp (.p 1 .u) .y] rfl EG (Za (n:=hi) (m:=i+(1:Nat)) (Ln [i,hi,L.length] (.w (.p 1 .x) .y) [Ge .z .y,Gl (.p 1 .x) .z] rfl hl ((List.getElem?_eq_some_iff.mp Gn).1))) (Za (n:=x.cps.size) (m:=1) h1))))
theorem oX (i:Int) (t:Tok) :specialOf (.int i t) "__index__" = pure (some (.builtin "int.__index__")):=by kernel_rfl
theorem oc (x y:Str) (t u a b:Tok) (h:Int) (hh:0<=h):Gives («str.rfind» ⟨[.str x t,.str y u,.int 0 a,.int h b],[]⟩) (.int (match lastOccurrence x y 0 (min h.toNat x.length) with|some i=>(i:Int)|none=>-1)):=by
 have e1:searchRange x.length [.int 0 a,.int h b]=pure (0,min h.toNat x.length):=by
  unfold searchRange;simp only[List.getElem?_cons_zero,List.getElem?_cons_succ];rw[oX,oX];show(pure ((max 0 (if (0:Int)<0 then 0+(x.length:Int) else 0)).toNat,min (max 0 (if h<0 then h+x.length else h)).toNat x.length):Sem (Nat×Nat))=_
  refine Er (YW (by exact(λxM=>(Lf [] [Gi (.p 1 (.c 0)) (.c 0)] rfl xM)))) (Er (YW (by exact(λxM=>(dW [] [h] [Gi (.c 0) .x,Gi (.p 1 .x) (.c 0)] rfl hh xM)))) (Er (show max 0 h=h by exact((Int.max_eq_right (a:=(0:Int)) (b:=h) hh))) ?_));rfl
 have e2:«str.rfind» ⟨[.str x t,.str y u,.int 0 a,.int h b],[]⟩ = (do let p ← searchRange x.length [.int 0 a,.int h b]; match lastOccurrence x y p.1 p.2 with | some i=>retInt i | none=>(do rule "str.rfind.not-found"; retInt (-1))):=by
  rfl
 refine Er e2 (Er e1 ?_);show Gives (match lastOccurrence x y 0 (min h.toNat x.length) with | some i=>retInt i | none=>(do rule "str.rfind.not-found"; retInt (-1))) _
 cases lastOccurrence x y 0 (min h.toNat x.length) with
 |none=>exact .rule (.of_eq rfl)
 |some i=>exact .of_eq rfl
theorem lf (x y z:Str) (t u v c:Tok) (i:Nat) (hu:(u==0||v==0)=false) (K2:(u==v)=false) (KZ:(y==z)=false) (hy:y.length≠0)
  (ho:occurrences x y 0 x.length 1=[i]) (hl:tooLong (x.length+z.length)=false):Gives («str.replace» ⟨[.str x t,.str y u,.str z v,.int 1 c],[]⟩) (.str (glued z (partsBetween x [i] y.length))):=by
 have e2:«str.replace» ⟨[.str x t,.str y u,.str z v,.int 1 c],[]⟩ = (if ((occurrences x y 0 x.length 1).isEmpty || (y.length == 0 && z.length == 0)) = true then (do rule "str.replace.nothing"; ret (.str x t)) else (do let same ← isSame (.str y u) (.str z v); if same = true then (do rule "str.replace.old-is-new"; ret (.str x t)) else if tooLong (x.length + (occurrences x y 0 x.length 1).length * z.length) = true then unsupported "str.replace:memory" else retStr (glued z (partsBetween x (occurrences x y 0 x.length 1) y.length)))):=by
  rfl
 refine Er e2 (Er ho (Er (isSame_str_other y z u v hu K2 KZ) ?_));refine Er (YW (by simp [hy])) ?_;show Gives (if tooLong (x.length + 1 * z.length) = true then unsupported "str.replace:memory" else retStr (glued z (partsBetween x [i] y.length))) _
 rw[Nat.one_mul];exact Er hl (.of_eq rfl)
theorem xp {x y:Str} {a b:List Nat} (hy:y.cps.toList≠ []) (h:cz y.cps.toList x.cps.toList=some (a,b)):∃i,occurrences x y 0 x.length 1=[i]/\a=x.cps.toList.take i/\b=x.cps.toList.drop (i+y.cps.toList.length):=by
 have hl:=StrLaws.occ_length_le x y 0 x.length 1
 rcases eW _ hy x.cps.toList with⟨g1,g2⟩|⟨j,g1,g2,g3⟩
 .have h:=g1▸h;exact ah h
 rw[g1]at h;refine aM λG g=>?_
 rcases StrLaws.occ_head x y 1 (Zg _) with⟨h1,h2⟩|⟨i,r,h1,h2,h3⟩
 .refine g ?_
  exact absurd ((iQ x y hy j).mpr g2) (h2 j)
 .refine g ?_
  have qY:i=j:=by
   rcases Nat.lt_trichotomy i j with q|q|q
   .have:=(iQ x y hy i).mp h2;have this:=(g3 i q)▸this;cases this
   .exact q
   .exact absurd ((iQ x y hy j).mpr g2) (h3 j q)
  subst qY;rw[h1]at hl ⊢;cases r with
  |nil=>exact⟨i,rfl,(Prod.mk.inj (aF h)).1.symm,(Prod.mk.inj (aF h)).2.symm⟩
  |cons=>exact absurd hl (by refine Er ZD (Er ZD ?_);omega)
theorem xe {l a b:List Nat} (h:cz [32,61,32] l=some (a,b)):(∀c,c∈a\/c∈b->c∈l)/\a.length+b.length<=l.length:=by
 rcases eW [32,61,32] (λz=>by cases z) l with⟨g,_⟩|⟨j,g,_,_⟩
 .have h:=g▸h;exact ah h
 .rw[g]at h
  obtain⟨rfl,rfl⟩:=Prod.mk.inj (aF h);refine⟨λc hc=>hc.elim mem_of_mem_take List.mem_of_mem_drop,?_⟩;exact Er Zw (Er ZC (Y4 (Nat.le_total (j+[(32:Nat),(61:Nat),(32:Nat)].length) (l.length)) (λpF=>(Ln [Min.min j l.length,l.length-(j+[32,61,32].length),l.length,j] (.w (.a .x .y) .z) [Ge .x .u,Ge (.a .y (.a .u (.p 1 (.p 1 (.p 1 (.c 0)))))) .z] rfl (Zd (a:=j) (b:=l.length) (L1 [j,l.length] .x .y (.a .x (.p 1 (.p 1 (.p 1 (.c 0))))) .y rfl pF)) (Za (n:=l.length) (m:=j+[(32:Nat),(61:Nat),(32:Nat)].length) pF))) (λpF=>(Ln [Min.min j l.length,l.length-(j+[32,61,32].length),l.length] (.w (.a .x .y) .z) [Gl .x .z,Ge .y (.c 0)] rfl (Zc j (l.length)) (Nat.sub_eq_zero_of_le (n:=l.length) (m:=j+[(32:Nat),(61:Nat),(32:Nat)].length) pF)))))
section
variable [Hp] {A:Around} {E:Value->Shared->Prop} {s:Shared} {Z:Addr->Prop} {v v':Value}
theorem B2 {x:Str} {t:Tok} {Q:Value→Shared→Prop} (h:∀c∈x.cps.toList,c < 128) (hn:x.cps.size≤Sz) (k:∀t' tk,Q (.str ⟨(x.cps.toList.map qW).toArray⟩ t') {s with toks:=tk}) :wpAny (model prog w) A (call (.builtin "str.upper") [.str x t]) Q E s:=by
 refine SC.upper ?_ ?_
 .refine Er (oO x h) ?_
  show decide (_ > sizeLine)=false
  rw[Y1];refine Er bb.symm ?_;show ¬(x.cps.toList.map qW).toArray.size > Sz
  refine Er Zj ?_;rw[ZB];exact Er Z8 (λe6=>(Lf [x.cps.size] [Gl .x (.c 16777216),Gl (.p 1 (.c 16777216)) .x] rfl hn e6))
 .exact Er (oO x h) (k _ _)
theorem B4 {x:Str} {t u a b:Tok} {Q:Value->Shared->Prop} (h1:1<=x.cps.size) (k:∀t' tk,Q (.int ((x.cps.size:Int)-1-(eH x.cps.toList).length-1) t') {s with toks:=tk}):
  wpAny (model prog w) A (call (.builtin "str.rfind") [.str x t,.str ⟨#[10]⟩ u,.int 0 a,.int ((x.cps.size:Int) - 1) b]) Q E s:=by
 exact call_gives PySem.F.slot_str_rfind (YT _ _ _) PySem.F.entry_str_rfind (PySem.F.args_str_rfind_4 _ _ _ _) (oc x ⟨#[10]⟩ t u a b ((x.cps.size:Int)-1) (Ln [x.cps.size] (.i (.c 0) (.s (.n .x) (.c 1))) [Gl (.c 1) .x] rfl h1)) (Er (wX x h1) (k _ _))
theorem Hk {x:Str} {r:Rv} (he:dD .up [.str x] = some r) (ra:cv s.heap Z v (.str x)) :wpAny (model prog w) A (call (.builtin "str.upper") [v]) (Op Z s r) E s:=by
 obtain⟨t,rfl,ok,hn⟩:=ra.str;obtain⟨hc,rfl⟩:=d9 he;have hc:∀c∈x.cps.toList,c<128:=λc m=>YU (all_eq_true.mp hc c m)
 refine B2 hc hn λt' tk=>.valT (.str _ t' ((gF _).mpr λd hd=>?_) ?_)
 .obtain⟨c,m,rfl⟩:=mem_map.mp hd
  have:=hc c m;unfold qW;split<;>(first|exact(Ln [c-32,c] (.w (.p 1 .x) (.c 1114112)) [Gl (.p 1 .y) (.c 128),Ge (.p 32 .x) .y] rfl this (Za (n:=c) (m:=32) (L1 [c] (.c 32) .x (.c 97) .x rfl (‹(97:Nat)<=c/\c<=(122:Nat)›).1)))|exact(L1 [c] (.p 1 .x) (.c 1114112) (.p 1 .x) (.c 128) rfl this))
 .refine Er Zj ?_;rw[ZB];exact Er Z8 hn
theorem B3 {x y z:Str} {t u v c:Tok} {p q:List Nat} {Q:Value->Shared->Prop} (hu:(u==0||v==0)=false) (K2:(u==v)=false) (KZ:(y==z)=false) (hy:y.cps.toList≠ []) (hp:cz y.cps.toList x.cps.toList=some (p,q)) (hl:x.cps.size+z.cps.size<=Sz)
  (k:∀t' tk,Q (.str ⟨(p ++ z.cps.toList ++ q).toArray⟩ t') {s with toks:=tk}) :wpAny (model prog w) A (call (.builtin "str.replace") [.str x t,.str y u,.str z v,.int 1 c]) Q E s:=by
 refine aQ (xp hy hp) λi Z=>?_
 have e:glued z (partsBetween x [i] y.length)=⟨(p++z.cps.toList++q).toArray⟩:=by
  apply dm;show((strSub x 0 i).cps++z.cps++(strSub x (i+y.length) x.length).cps).toList=_
  refine Er toList_append ?_;rw[toList_append,dR,dR,take_of_length_le (i:=x.length) (by refine Er Z8 ?_;exact Zg _)];show x.cps.toList.take i++z.cps.toList++x.cps.toList.drop (i+y.cps.size)=p++z.cps.toList++q
  exact Er Z.2.1 (Er Z.2.2 (Er Z8 rfl))
 have hf:tooLong (x.length+z.length)=false:=by
  show decide (_ > sizeLine)=false
  rw[Y1];exact Er bb.symm (Nat.not_lt.mpr hl)
 refine call_gives PySem.F.slot_str_replace (YT _ _ _) PySem.F.entry_str_replace (PySem.F.args_str_replace_4 _ _ _ _) (lf x y z t u v c i hu K2 KZ (λz=>hy (by have:y.cps.size=0:=z;rw[<- Z8]at this;exact List.eq_nil_of_length_eq_zero this)) Z.1 hf) ?_;refine⟨?_,by refine Er e ?_;exact k _ _⟩;refine Er e ?_;show(p++z.cps.toList++q).toArray.size<=sizeLine
 exact Er bb.symm (Er Zj (Er ZE (Er ZE (Er Z.2.1 (Er Z.2.2 (Er Zw (Er ZC (Er Z8 (Er Z8 (Y4 (Nat.le_total (i+y.cps.toList.length) (x.cps.size)) (λtC=>(Ln [Min.min i x.cps.size,z.cps.size,x.cps.size-(i+y.cps.toList.length),x.cps.size,i,y.cps.toList.length] (.w (.a (.a .x .y) .z) (.c 16777216)) [Gl (.a .u .y) (.c 16777216),Ge .x (.v 4),Ge (.a .z (.a (.v 4) (.v 5))) .u] rfl hl (Zd (a:=i) (b:=x.cps.size) (L1 [i,x.cps.size,y.cps.toList.length] .x .y (.a .x .z) .y rfl tC)) (Za (n:=x.cps.size) (m:=i+y.cps.toList.length) tC))) (λtC=>(Ln [Min.min i x.cps.size,z.cps.size,x.cps.size-(i+y.cps.toList.length),x.cps.size] (.w (.a (.a .x .y) .z) (.c 16777216)) [Gl (.a .u .y) (.c 16777216),Gl .x .u,Ge .z (.c 0)] rfl hl (Zc i (x.cps.size)) (Nat.sub_eq_zero_of_le (n:=x.cps.size) (m:=i+y.cps.toList.length) tC)))))))))))))
end
end Mv
namespace Mv
open PySem PyProof.Rows
variable [Hp]
noncomputable def cy:Ty->String
 | .tup=>"tuple" | .int=>"int" | .bool=>"bool" | .str=>"str" | .list=>"list"
section
variable {A:Around} {E:Value->Shared->Prop} {s:Shared} {Z:Addr->Prop} {a b:Value}
theorem Ec {d:D} {n:Nat} (he:A8 d = some n) (ra:cv s.heap Z a d) :wpAny (model prog w) A (call (.builtin "len") [a]) (Op Z s (.fz (.int n))) E s:=by
 cases d<;>first|exact ah he|refine Er (aF he).symm ?_
 .obtain⟨t,rfl,_,hz⟩:=ra.str
  simp only[Sz]at hz;exact P.len_str (by unfold Str.length;omega) .int
 .obtain⟨l,vs,k,rfl,hl,hn,R⟩:=ra.list
  simp only[Sz]at hn;refine Calls.call_len_list hl.isList (by refine Er Zj ?_;exact(Ln [vs.length] (.i (.p 1 (.n .x)) (.c 9223372036854775808)) [Gl .x (.c 16777216)] rfl hn)) ?_;exact Er Zj (Er R.length .int)
 .obtain⟨l,vs,k,rfl,hl,hn,R,_⟩:=ra.tuple
  simp only[Sz]at hn;refine P.len_tuple hl (by refine Er Zj ?_;exact(λHT=>(Lf [vs.length] [Gl .x (.c 16777216),Gi (.c 9223372036854775808) (.n .x)] rfl hn HT))) ?_;exact Er Zj (Er R.length .int)
theorem Ed {d:D} (t:Ty) (ra:cv s.heap Z a d) :wpAny (model prog w) A (call (.builtin "isinstance") [a,.type (cy t)]) (Op Z s (.fz (.bool (Ie t d)))) E s:=by
 cases d with
 |none=>obtain rfl:=ra.none;cases t<;>first|exact IsiPair.NoneType_tuple (.valT (.bool _))|exact IsiPair.NoneType_int (.valT (.bool _))|exact IsiPair.NoneType_bool (.valT (.bool _))|exact IsiPair.NoneType_str (.valT (.bool _))|exact IsiPair.NoneType_list (.valT (.bool _))
 |bool b=>obtain rfl:=ra.bool;cases t<;>first|exact IsiPair.bool_tuple (.valT (.bool _))|exact IsiPair.bool_int .bool|exact IsiPair.bool_bool .bool|exact IsiPair.bool_str (.valT (.bool _))|exact IsiPair.bool_list (.valT (.bool _))
 |int i=>obtain⟨u,rfl⟩:=ra.int;cases t<;>first|exact IsiPair.int_tuple (.valT (.bool _))|exact IsiPair.int_int .bool|exact IsiPair.int_bool (.valT (.bool _))|exact IsiPair.int_str (.valT (.bool _))|exact IsiPair.int_list (.valT (.bool _))
 |str x=>obtain⟨u,rfl,_⟩:=ra.str;cases t<;>first|exact IsiPair.str_tuple (.valT (.bool _))|exact IsiPair.str_int (.valT (.bool _))|exact IsiPair.str_bool (.valT (.bool _))|exact IsiPair.str_str .bool|exact IsiPair.str_list (.valT (.bool _))
 |list ds=>
  obtain⟨l,vs,k,rfl,hl,hn,R⟩:=ra.list;cases t<;>first|exact IsiPair.list_tuple hl rfl (.valT (.bool _))|exact IsiPair.list_int hl rfl (.valT (.bool _))|exact IsiPair.list_bool hl rfl (.valT (.bool _))|exact IsiPair.list_str hl rfl (.valT (.bool _))|exact IsiPair.list_list hl rfl .bool
 |tuple ds=>
  obtain⟨l,vs,k,rfl,hl,hn,R,_⟩:=ra.tuple;cases t<;>first|exact IsiPair.tuple_tuple hl rfl .bool|exact IsiPair.tuple_int hl rfl (.valT (.bool _))|exact IsiPair.tuple_bool hl rfl (.valT (.bool _))|exact IsiPair.tuple_str hl rfl (.valT (.bool _))|exact IsiPair.tuple_list hl rfl (.valT (.bool _))
 |dict kvs=>
  obtain⟨l,kv,rfl,hd,hn,R⟩:=ra.dict;obtain⟨o,_,_,ho,hc,_⟩:=hd.2;cases t<;>first|exact IsiPair.dict_tuple ho hc.1 (.valT (.bool _))|exact IsiPair.dict_int ho hc.1 (.valT (.bool _))|exact IsiPair.dict_bool ho hc.1 (.valT (.bool _))|exact IsiPair.dict_str ho hc.1 (.valT (.bool _))|exact IsiPair.dict_list ho hc.1 (.valT (.bool _))
theorem AW {b':Bool} (ra:cv s.heap Z a (.bool b')) :wpAny (model prog w) A (call (.type "int") [a]) (Op Z s (.fz (.int (if b' then 1 else 0)))) E s:=by
 exact Er ra.bool (call_int_bool .int)
theorem uX {ds:List D} (ra:cv s.heap Z a (.list ds)) :wpAny (model prog w) A (call (.type "tuple") [a]) (Op Z s (.fz (.tuple ds))) E s:=by
 obtain⟨l,vs,k,rfl,hl,hn,R⟩:=ra.list;refine call_tuple_list hl.isList (λh' hk=>?_) (by refine Er Zj (Er bb.symm ?_);exact hn);exact .after (h₁:=h') hk (.newT (R.mono (λa o ac e=>hk a o e) λac z=>z) hn)
theorem uW {ds:List D} (ra:cv s.heap Z a (.tuple ds)) :wpAny (model prog w) A (call (.type "tuple") [a]) (Op Z s (.fz (.tuple ds))) E s:=by
 obtain⟨l,vs,k,rfl,hl,hn,R,zl⟩:=ra.tuple;exact call_tuple_same ⟨_,hl,rfl,_,rfl⟩ (.val (.tuple zl hl hn R))
theorem pw {ds:List D} (ra:cv s.heap Z a (.list ds)∨cv s.heap Z a (.tuple ds)) :wpAny (model prog w) A (call (.type "list") [a]) (Op Z s (.own (.list ds))) E s:=by
 rcases ra with ra|ra
 .obtain⟨l,vs,k,rfl,hl,hn,R⟩:=ra.list
  exact call_list_seq l (.inl rfl) hl rfl rfl (λh' c' hk hD=>⟨h',s.toks,rfl,hk,.own (yK _) (.list hD hn (R.mono (λa o ac e=>hk a o e) λac z=>z))⟩) (by refine Er Zj (Er bb.symm ?_);exact hn)
 .obtain⟨l,vs,k,rfl,hl,hn,R,_⟩:=ra.tuple
  exact call_list_seq l (.inr rfl) hl rfl rfl (λh' c' hk hD=>⟨h',s.toks,rfl,hk,.own (yK _) (.list hD hn (R.mono (λa o ac e=>hk a o e) λac z=>z))⟩) (by refine Er Zj (Er bb.symm ?_);exact hn)
theorem mY:∀ {ds:List D} {r:Bool},allB ds=some r-> ∃f:Nat->Bool,(∀i d,ds[i]? = some d->d=PyData.bool (f i))/\r=(List.range ds.length).all f
 |[],r,h=>by refine Er (aF h).symm ?_;exact⟨λac=>true,λi d e=>by simp at e,by simp⟩
 |.bool b::ds,r,h=>by
  obtain⟨c,hc,rfl⟩:=Z9 h;obtain⟨f,h1,rfl⟩:=mY (ds:=ds) hc;refine⟨λi=>match i with|0=>b|i+1=>f i,λi d e=>?_,?_⟩
  .cases i with
   |zero=>simp at e;exact e.symm
   |succ i=>exact h1 i d e
  .refine Er ZD (Er List.range_succ_eq_map (Er ZO (Er List.all_map ?_)));rfl
 |.int _::_,_,h=>by exact ah h
 |.none::_,_,h=>by exact ah h
 |.str _::_,_,h=>by exact ah h
 |.list _::_,_,h=>by exact ah h
 |.tuple _::_,_,h=>by exact ah h
 |.dict _::_,_,h=>by exact ah h
theorem Eg {ds:List D} {r:Bool} (hh:A.handled = none) (he:allB ds = some r) (ra:cv s.heap Z a (.list ds)) :wpAny (model prog w) A (call (.builtin "all") [a]) (Op Z s (.fz (.bool r))) E s:=by
 obtain⟨l,vs,k,rfl,hl,hn,R⟩:=ra.list;obtain⟨f,hf,rfl⟩:=mY he;refine call_all_walk (wpAny_pyIter_list hl.isList ?_);refine⟨_,_,_,_,_,_,f,rfl,Walks.list (A:=A.in1) hh s.heap.objs.size l (ne_of_lt (ZV hl)) vs.toArray,⟨⟨_,ZX _ rfl,rfl,rfl⟩,(IsL.push hl _).isList⟩,λi v s' Q E' hv hq=>?_,λh' tk hk=>?_⟩
 .have Ip:vs[i]? = some v:=by simpa using hv
  refine aQ (R.getV Ip) λd z=>?_
  have:=hf i d z.1;subst this;exact Er ((bS.dat z.2).bool) (wpAny_truthy_bool hq)
 .have e:(List.range ds.length).all f=(List.range vs.toArray.size).all f:=by exact Er Zj (Er R.length rfl)
  refine Er e ?_;refine⟨h',tk,rfl,λb o q=>hk b o (λm=>?_) (pK _ b o q),.old (.bool _)⟩;simp at m;exact absurd (ZV q) (by refine Er m ?_;exact lt_irrefl _)
theorem AX {kvs:List (D×D)} (ra:cv s.heap Z a (.dict kvs)) (rb:cv s.heap Z b (.str k)):
  wpAny (model prog w) A (call (.builtin "dict.get") [a,b]) (Op Z s (.fz ((b5 kvs k).getD .none))) E s:=by
 obtain⟨l,kv,rfl,hd,hn,R⟩:=ra.dict;obtain⟨t,rfl,_,_⟩:=rb.str;refine call_meetsIn PySem.F.slot_dict_get hd.2.typeIs PySem.F.entry_dict_get (PySem.F.args_dict_get_2 _ _) (meets_dict_get (strKind prog w) l (strKind_is _ _ k t) hd.1) ⟨_,hd.2.mapOf,?_⟩;refine aM λG g=>?_
 rcases R.get (k:=k) with⟨h1,h2⟩|⟨v,d',h1,h2,rv⟩
 .refine g ?_
  exact Er h1 (Er h2 (.valT .none))
 .refine g ?_
  exact Er h1 (Er h2 (.valT rv))
theorem mU:∀ {xs:List D} {bs:List Bool},gi xs=some bs->xs=bs.map PyData.bool
 |[],_,h=>by obtain rfl:=aF h;rfl
 |.bool b::xs,bs,h=>by
  obtain⟨r,hr,rfl⟩:=Z9 h;refine Er (mU hr) ?_;rfl
 |.int _::_,_,h=>by exact ah h
 |.none::_,_,h=>by exact ah h
 |.str _::_,_,h=>by exact ah h
 |.list _::_,_,h=>by exact ah h
 |.tuple _::_,_,h=>by exact ah h
 |.dict _::_,_,h=>by exact ah h
theorem lK (bs:List Bool):noDicts (bs.map PyData.bool)=true/\(bs.map PyData.bool).all PySem.Spec.Shape.bool.has=true:=by
 induction bs with
 |nil=>exact⟨rfl,rfl⟩
 |cons b bs ih=>exact⟨ih.1,by refine Er Zt (Er ZO (Er ih.2 ?_));rfl⟩
theorem qI (b:Bool):∀bs:List Bool,PySem.Spec.countIn (.bool b) (bs.map PyData.bool)=((bs.count b:Nat):Int):=by
 intro bs
 induction bs with
 |nil=>exact rfl
 |cons x bs ih=>
  refine Er Zt (Er count_cons ?_);show(if PySem.Spec.same (.bool x) (.bool b) then 1 else 0)+PySem.Spec.countIn (.bool b) (bs.map PyData.bool)=_
  refine Er ih (Er (show PySem.Spec.same (.bool x) (.bool b)=(x==b) from rfl) ?_);cases x<;>cases b<;>simp<;>(first|exact(Le [List.count false bs] (.j (.a (.c 1) (.n .x)) (.p 1 (.n .x))) [] rfl)|exact(Le [List.count true bs] (.j (.a (.c 1) (.n .x)) (.p 1 (.n .x))) [] rfl))
theorem xm {xs:List D} {bs:List Bool} {k:Bool} (he:gi xs=some bs) (ra:cv s.heap Z a (.list xs)) (rb:cv s.heap Z b (.bool k)):
  wpAny (model prog w) A (call (.builtin "list.count") [a,b]) (Op Z s (.fz (.int (bs.count k:Nat)))) E s:=by
 obtain rfl:=mU he;have Q:=ra.reads (lK bs).1;obtain⟨l,vs,n,rfl,hl,hn,R⟩:=ra.list;refine Er rb.bool ?_;obtain⟨Pt,q'⟩:=R.reads (lK bs).1;refine count_list_bools hl.isList q' (lK bs).2 ?_;rw[qI];exact .int
end
end Mv
namespace Mv
open PySem PyProof.Rows
section
variable [Hp]
variable {A:Around} {E:Value->Shared->Prop} {s:Shared} {Z:Addr->Prop} {a:Value} {I d l:Addr} {vs:List Value} {R:Result->Shared->Prop}
theorem IsLI.at {a t:Addr} (x:h.IsListIter a t i) (k:∀o,h.get? a=some o->h'.get? a=some o):h'.IsListIter a t i:=let ⟨o,e,r⟩:=x;⟨o,k o e,r⟩
end
theorem oW:∀ {xs:List D} {ks:List Str},dG xs=some ks->xs=ks.map str
 |[],_,h=>by obtain rfl:=aF h;rfl
 |.str b::xs,bs,h=>by
  obtain⟨r,hr,rfl⟩:=Z9 h;refine Er (oW hr) ?_;rfl
 |.int _::_,_,h=>by exact ah h
 |.none::_,_,h=>by exact ah h
 |.bool _::_,_,h=>by exact ah h
 |.list _::_,_,h=>by exact ah h
 |.tuple _::_,_,h=>by exact ah h
 |.dict _::_,_,h=>by exact ah h
section
variable [Hp]
variable {A:Around} {E:Value->Shared->Prop} {s:Shared} {Z:Addr->Prop} {a:Value}
set_option tactic.hygienic true in
theorem uY {d:D} {r:Rv} (hh:A.handled=none) (he:dD .lenset [d]=some r) (ra:cv s.heap Z a d):
  wpAny (model prog w) A (call (.type "set") [a]) (fun v s'=>wpAny (model prog w) A (call (.builtin "len") [v]) (Op Z s r) E s') E s:=by
 have key:∀(l:Addr) (T:String) (vs:List Value) (n:Nat) (xs:List D),(T = "list"∨T = "tuple")→s.heap.get? l = some {cls:=.type T,data:=.seq vs.toArray n}→ao s.heap Z vs xs→hJ xs = some r→
   wpAny (model prog w) A (call (.type "set") [.ref l]) (fun v s'=>wpAny (model prog w) A (call (.builtin "len") [v]) (Op Z s r) E s') E s:=fun l T vs n xs hT hl R he=>by
  unfold hJ at he
  split at he
  .rename_i ks J4
   obtain⟨hk,rfl⟩:=d9 he;have e:=oW J4;have bH:vs.length=ks.length:=by refine Er R.length ?_;refine Er e ?_;rw[ZB]
   have hp:eI (λi=>ks.getD i ⟨#[]⟩) vs.toArray.size=ks.reverse:=by
    unfold eI;refine Er Zj (Er bH ?_)
    congr 1
    apply List.ext_getElem
    .simp
    .intro i h1 h2
     rw[List.getElem_map,List.getElem_range];refine Er (ZH) (Er (ZG h2) ?_);rfl
   refine oy (val:=λi=>ks.getD i ⟨#[]⟩) hT hh hl (λi v hv=>?_) (by refine Er Zj (Er bH ?_);unfold scanBound;exact(L1 [ks.length] (.p 1 (.p 1 .x)) (.c 4096) .x (.c 1000) rfl hk)) λh' tk hS kp=>?_
   .have Ip:vs[i]? = some v:=by simpa using hv
    obtain⟨d,hd,rv⟩:=R.getV Ip;rw[e,ZF]at hd;obtain⟨k,hk,rfl⟩:=Z9 hd;obtain⟨t,rfl,_⟩:=(bS.dat rv).str;exact⟨t,by refine Er (ZH) (Er hk ?_);rfl⟩
   .rw[hp]at hS
    refine oI hS λo es ep t hS=>?_;have ho:=hS.1;have hex:=hS.2.1;have hd:=hS.2.2.1;have pX:=hS.2.2.2.2.2.1;have hf:=hS.2.2.2.2.2.2.1;have hn:=hS.2.2.2.2.2.2.2
    exact call_len_set (s:= {s with heap:=h',toks:=tk}) ho hex hd hf (by unfold scanBound at pX;exact(Ln [es.size] (.i (.p 1 (.n .x)) (.c 9223372036854775808)) [Gl (.p 1 .x) (.c 4096)] rfl pX)) (Er hn (⟨h',_,rfl,λb o e=>kp b o (ZV e) e,.old (.int _ _)⟩))
  .exact ah he
 cases d<;>first|exact ah he|skip
 .obtain⟨l,vs,n,rfl,hl,hn,R⟩:=ra.list
  exact key l _ vs n _ (.inl rfl) hl R he
 .obtain⟨l,vs,n,rfl,hl,hn,R,_⟩:=ra.tuple
  exact key l _ vs n _ (.inr rfl) hl R he
end
end Mv
namespace Lq
open PySem Mv
noncomputable abbrev ai (n:Int):Mv.Ex:=.lit (.int n)
noncomputable abbrev aa (n:Nat):Mv.Ex:=.var n
noncomputable abbrev S (l:List Nat):D:=.str ⟨l.toArray⟩
noncomputable abbrev bo:Str:=⟨#[72,97,108,102,69,114,114,111,114]⟩
noncomputable abbrev bE:Str:=⟨#[78,111,78,117,109,98,101,114]⟩
noncomputable abbrev cN:Str:=⟨#[78,111,76,105,115,116]⟩
noncomputable abbrev b9:Str:=⟨#[78,111,70,105,114,115,116]⟩
noncomputable abbrev cO:Str:=⟨#[78,111,68,111,119,110]⟩
noncomputable abbrev bF:Str:=⟨#[66,121,78,111,117,103,104,116]⟩
noncomputable abbrev bD:Str:=⟨#[84,111,111,71,114,101,97,116]⟩
noncomputable abbrev b6:Str:=⟨#[84,111,111,76,111,110,103]⟩
noncomputable abbrev b8:Str:=⟨#[78,111,116,75,101,112,116]⟩
noncomputable abbrev aB:Str:=⟨#[78,111,84,101,120,116]⟩
noncomputable def BA:D:=(.int 1000000000000000000)
noncomputable def r9:D:=(.int 50)
noncomputable def tO:D:=(.tuple [(S [78,111,78,117,109,98,101,114]),(S [78,111,76,105,115,116]),(S [78,111,70,105,114,115,116]),(S [78,111,68,111,119,110]),(S [66,121,78,111,117,103,104,116]),(S [84,111,111,71,114,101,97,116])])
noncomputable def tP:D:=(.tuple [(S [112,108,117,115]),(S [109,105,110,117,115]),(S [116,105,109,101,115]),(S [111,118,101,114]),(S [108,101,115,115]),(S [115,97,109,101]),(S [106,111,105,110])])
noncomputable def mI:D:=(.tuple [(S [100,111,119,110]),(S [102,105,114,115,116]),(S [114,101,115,116]),(S [101,109,112,116,121])])
noncomputable def ma:D:=(.int 8)
noncomputable def dc:D:=(S [97,98,99,100,101,102,103,104,105,106,107,108,109,110,111,112,113,114,115,116,117,118,119,120,121,122])
noncomputable def jB:D:=(S [48,49,50,51,52,53,54,55,56,57])
noncomputable def vm:D:=(.int 8)
noncomputable def vn:D:=(.int 20)
noncomputable def i4:D:=(.int 6)
noncomputable def gN:D:=(.int 18)
noncomputable def qj:Fn:=⟨2,5,
  [.iff (.cmp .lt (aa 1) (ai 1)) [.ret (.neg (ai 1))] [],
  .iff (.not (.bi (.isi .tup) [aa 0])) [.asg (.one 2) (.and [.bi (.isi .int) [aa 0],.not (.bi (.isi .bool) [aa 0]),.cmp2 .lt .lt (.neg (.gl 0)) (aa 0) (.gl 0)]),
   .ret (.ite (aa 2) (.op2 .sub (aa 1) (ai 1)) (.neg (ai 1)))] [],
  .asg (.one 3) (.op2 .sub (aa 1) (ai 1)),
  .for_ (.one 4) .seq [aa 0] [.asg (.one 3) (.call 0 [aa 4,aa 3]),
   .iff (.cmp .lt (aa 3) (ai 0)) [.ret (.neg (ai 1))] []] [4],
  .ret (aa 3)]⟩
noncomputable def sk:Fn:=⟨1,1,
  [.ret (.cmp .ge (.call 0 [aa 0,.gl 1]) (ai 0))]⟩
noncomputable def lj:Fn:=⟨1,1,
  [.ret (.or [.cmp .isin (aa 0) (.gl 3),.cmp .isin (aa 0) (.gl 4),.cmp .eq (aa 0) (.lit (S [108,105,115,116]))])]⟩
noncomputable def BF:Fn:=⟨2,2,
  [.iff (.cmp .eq (aa 0) (.lit (S [108,105,115,116]))) [.ret (.cmp .le (aa 1) (.gl 5))] [],
  .ret (.cmp .eq (aa 1) (.ite (.cmp .isin (aa 0) (.gl 3)) (ai 2) (ai 1)))]⟩
noncomputable def vE:Fn:=⟨1,2,
  [.iff (.or [.not (.bi (.isi .str) [aa 0]),.not (.cmp2 .le .le (ai 1) (.bi .len [aa 0]) (.gl 8)),.cmp .notin (.idx (aa 0) (ai 0)) (.gl 6)]) [.ret (.lit (.bool false))] [],
  .iff (.or [.call 2 [aa 0],.cmp .eq (aa 0) (.lit (S [105,102])),.cmp .eq (aa 0) (.lit (S [114,101,102,117,115,101]))]) [.ret (.lit (.bool false))] [],
  .ret (.bi .all [.comp (.or [(.cmp .isin (aa 1) (.gl 6)),(.cmp .isin (aa 1) (.gl 7))]) (.one 1) .seq [aa 0] []])]⟩
noncomputable def qt:Fn:=⟨1,2,
  [.ret (.and [.bi .all [(.comp (.call 4 [aa 1]) (.one 1) .seq [aa 0] [])],.cmp .eq (.bi .lenset [aa 0]) (.bi .len [aa 0])])]⟩
noncomputable def vD:Fn:=⟨2,2,
  [.iff (.cmp .ne (.bi .len [aa 0]) (ai 2)) [.ret (.lit (.bool false))] [],
  .iff (.cmp .eq (.idx (aa 0) (ai 0)) (.lit (S [118,97,108,117,101]))) [.ret (.call 1 [.idx (aa 0) (ai 1)])] [],
  .iff (.cmp .eq (.idx (aa 0) (ai 0)) (.lit (S [110,97,109,101]))) [.ret (.cmp .isin (.idx (aa 0) (ai 1)) (aa 1))] [],
  .ret (.cmp .isin (.idx (aa 0) (ai 1)) (.gl 2))]⟩
noncomputable def si:Fn:=⟨2,5,
  [.iff (.cmp .eq (.idx (aa 0) (ai 0)) (.lit (S [105,102]))) [.ret (.ite (.cmp .eq (.bi .len [aa 0]) (ai 4)) (.bi .list [.slc (aa 0) (ai 1) (.lit .none)]) (.lit .none))] [],
  .iff (.or [.cmp .notin (.idx (aa 0) (ai 0)) (.tup [(.lit (S [100,111])),(.lit (S [99,97,108,108]))]),.cmp .ne (.bi .len [aa 0]) (ai 3),.not (.bi (.isi .tup) [(.idx (aa 0) (ai 2))])]) [.ret (.lit .none)] [],
  .asg (.tup [2,3]) (.tup [.idx (aa 0) (ai 1),.idx (aa 0) (ai 2)]),
  .iff (.cmp .eq (.idx (aa 0) (ai 0)) (.lit (S [100,111]))) [.asg (.one 4) (.and [.call 2 [aa 2],.call 3 [aa 2,(.bi .len [aa 3])]])] [.asg (.one 4) (.and [.bi (.isi .str) [aa 2],.cmp .eq (.bi .dget [aa 1,aa 2]) (.bi .len [aa 3])])],
  .ret (.ite (aa 4) (.bi .list [aa 3]) (.lit .none))]⟩
noncomputable def vG:Fn:=⟨4,6,
  [.iff (.or [.cmp .eq (aa 1) (ai 0),.not (.bi (.isi .tup) [aa 0]),.cmp .eq (.bi .len [aa 0]) (ai 0)]) [.ret (.lit (.bool false))] [],
  .iff (.cmp .isin (.idx (aa 0) (ai 0)) (.tup [.lit (S [118,97,108,117,101]),.lit (S [110,97,109,101]),.lit (S [114,101,102,117,115,101])])) [.ret (.call 6 [aa 0,aa 2])] [],
  .asg (.one 4) (.call 7 [aa 0,aa 3]),
  .iff (.cmp .is (aa 4) (.lit .none)) [.ret (.lit (.bool false))] [],
  .ret (.bi .all [.comp (.call 8 [aa 5,(.op2 .sub (aa 1) (ai 1)),aa 2,aa 3]) (.one 5) .seq [aa 4] []])]⟩
noncomputable def vF:Fn:=⟨1,5,
  [.iff (.or [.cmp .eq (.bi .len [aa 0]) (ai 0),(.not (.call 5 [.comp (.idx (aa 3) (ai 0)) (.one 3) .seq [aa 0] []]))]) [.ret (.lit (.bool false))] [],
  .asg (.one 1) (.bi .dict0 []),
  .for_ (.one 2) .seq [aa 0] [.iff (.or [.cmp .gt (.bi .len [(.idx (aa 2) (ai 1))]) (.gl 10),.not (.call 5 [(.idx (aa 2) (ai 1))])]) [.ret (.lit (.bool false))] [],
   .setI (.var 1) (.idx (aa 2) (ai 0)) (.bi .len [.idx (aa 2) (ai 1)])] [2],
  .ret (.bi .all [.comp (.call 8 [(.idx (aa 4) (ai 2)),(.gl 9),(.idx (aa 4) (ai 1)),aa 1]) (.one 4) .seq [aa 0] []])]⟩
noncomputable def oi:Fn:=⟨1,2,
  [.iff (.bi (.isi .tup) [aa 0]) [.ret (.op2 .add (.op2 .add (.lit (S [91])) (.bi .join [.lit (S [32]),.comp (.call 10 [aa 1]) (.one 1) .seq [aa 0] []])) (.lit (S [93])))] [],
  .ret (.bi .str [aa 0])]⟩
noncomputable def vt:Fn:=⟨1,4,
  [.iff (.cmp .eq (.idx (aa 0) (ai 0)) (.lit (S [118,97,108,117,101]))) [.ret (.call 10 [.idx (aa 0) (ai 1)])] [],
  .iff (.cmp .eq (.idx (aa 0) (ai 0)) (.lit (S [110,97,109,101]))) [.ret (.idx (aa 0) (ai 1))] [],
  .iff (.cmp .eq (.idx (aa 0) (ai 0)) (.lit (S [114,101,102,117,115,101]))) [.ret (.op2 .add (.op2 .add (.lit (S [40,114,101,102,117,115,101,32])) (.idx (aa 0) (ai 1))) (.lit (S [41])))] [],
  .iff (.cmp .eq (.idx (aa 0) (ai 0)) (.lit (S [105,102]))) [.asg (.one 1) (.op2 .add (.list [.lit (S [105,102])]) (.comp (.call 11 [aa 2]) (.one 2) .seq [.slc (aa 0) (ai 1) (.lit .none)] []))] [.asg (.one 1) (.op2 .add (.list [.idx (aa 0) (ai 1)]) (.comp (.call 11 [aa 3]) (.one 3) .seq [.idx (aa 0) (ai 2)] []))],
  .ret (.op2 .add (.op2 .add (.lit (S [40])) (.bi .join [.lit (S [32]),aa 1])) (.lit (S [41])))]⟩
noncomputable def BG:Fn:=⟨1,5,
  [.asg (.one 1) (.list []),
  .for_ (.tup [2,3,4]) .seq [aa 0] [.app (.var 1) (.op2 .add (.bi .join [.lit (S [32]),.op2 .add (.op2 .add (.list [aa 2]) (.bi .list [aa 3])) (.list [(.lit (S [61])),(.call 11 [aa 4])])]) (.lit (S [10])))] [2,3,4],
  .ret (.bi .join [.lit (S []),.pl (.var 1)])]⟩
noncomputable def vr:Fn:=⟨2,3,
  [.asg (.one 2) (aa 1),
  .whl (.and [.cmp .lt (aa 2) (.bi .len [aa 0]),.cmp .notin (.idx (aa 0) (aa 2)) (.lit (S [32,40,41,91,93]))]) [.asg (.one 2) (.op2 .add (aa 2) (ai 1))] [],
  .ret (.slc (aa 0) (aa 1) (aa 2))]⟩
noncomputable def qk:Fn:=⟨1,3,
  [.asg (.one 1) (aa 0),
  .iff (.cmp .eq (.slc (aa 0) (.lit .none) (ai 1)) (.lit (S [45]))) [.asg (.one 1) (.slc (aa 0) (ai 1) (.lit .none))] [],
  .iff (.or [.not (.cmp2 .le .le (ai 1) (.bi .len [aa 1]) (.gl 11)),(.not (.bi .all [.comp (.cmp .isin (aa 2) (.gl 7)) (.one 2) .seq [aa 1] []]))]) [.raise aB] [],
  .ret (.bi .int [aa 0])]⟩
noncomputable def se:Fn:=⟨3,6,
  [.iff (.cmp .eq (aa 2) (ai 0)) [.raise aB] [],
  .iff (.cmp .ne (.slc (aa 0) (aa 1) (.op2 .add (aa 1) (ai 1))) (.lit (S [91]))) [.asg (.one 3) (.call 13 [aa 0,aa 1]),
   .ret (.tup [.call 14 [aa 3],.op2 .add (aa 1) (.bi .len [aa 3])])] [],
  .asg (.one 4) (.list []),
  .asg (.one 1) (.op2 .add (aa 1) (ai 1)),
  .whl (.cmp .ne (.slc (aa 0) (aa 1) (.op2 .add (aa 1) (ai 1))) (.lit (S [93]))) [.asg (.tup [5,1]) (.call 15 [aa 0,aa 1,.op2 .sub (aa 2) (ai 1)]),
   .app (.var 4) (aa 5),
   .iff (.cmp .eq (.slc (aa 0) (aa 1) (.op2 .add (aa 1) (ai 1))) (.lit (S [32]))) [.asg (.one 1) (.op2 .add (aa 1) (ai 1))] [.iff (.cmp .ne (.slc (aa 0) (aa 1) (.op2 .add (aa 1) (ai 1))) (.lit (S [93]))) [.raise aB] []]] [5],
  .ret (.tup [.bi .tuple [(.pl (.var 4))],.op2 .add (aa 1) (ai 1)])]⟩
noncomputable def BI:Fn:=⟨2,2,
  [.iff (.cmp .eq (aa 0) (.lit (S [105,102]))) [.ret (.op2 .add (.tup [.lit (S [105,102])]) (.bi .tuple [aa 1]))] [],
  .iff (.call 2 [aa 0]) [.ret (.tup [.lit (S [100,111]),aa 0,.bi .tuple [aa 1]])] [],
  .ret (.tup [.lit (S [99,97,108,108]),aa 0,.bi .tuple [aa 1]])]⟩
noncomputable def sf:Fn:=⟨2,4,
  [.asg (.one 2) (.call 13 [aa 0,aa 1]),
  .iff (.or [.cmp .eq (.slc (aa 0) (aa 1) (.op2 .add (aa 1) (ai 1))) (.lit (S [91])),.cmp .eq (.slc (aa 0) (aa 1) (.op2 .add (aa 1) (ai 1))) (.lit (S [45])),.and [(.cmp .ne (aa 2) (.lit (S []))),(.cmp .isin (.idx (aa 2) (ai 0)) (.gl 7))]]) [.asg (.tup [3,1]) (.call 15 [aa 0,aa 1,.gl 1]),
   .ret (.tup [.tup [(.lit (S [118,97,108,117,101])),aa 3],aa 1])] [],
  .ret (.tup [.tup [(.lit (S [110,97,109,101])),aa 2],.op2 .add (aa 1) (.bi .len [aa 2])])]⟩
noncomputable def jT:Fn:=⟨3,8,
  [.iff (.cmp .eq (aa 2) (ai 0)) [.raise aB] [],
  .iff (.cmp .ne (.slc (aa 0) (aa 1) (.op2 .add (aa 1) (ai 1))) (.lit (S [40]))) [.ret (.call 17 [aa 0,aa 1])] [],
  .asg (.one 3) (.call 13 [aa 0,.op2 .add (aa 1) (ai 1)]),
  .asg (.one 1) (.op2 .add (.op2 .add (aa 1) (ai 1)) (.bi .len [aa 3])),
  .iff (.cmp .eq (aa 3) (.lit (S [114,101,102,117,115,101]))) [.asg (.one 4) (.call 13 [aa 0,.op2 .add (aa 1) (ai 1)]),
   .asg (.one 5) (.tup [.lit (S [114,101,102,117,115,101]),aa 4]),
   .asg (.one 1) (.op2 .add (.op2 .add (aa 1) (ai 1)) (.bi .len [aa 4]))] [.asg (.one 6) (.list []),
   .whl (.cmp .eq (.slc (aa 0) (aa 1) (.op2 .add (aa 1) (ai 1))) (.lit (S [32]))) [.asg (.tup [7,1]) (.call 18 [aa 0,.op2 .add (aa 1) (ai 1),.op2 .sub (aa 2) (ai 1)]),
    .app (.var 6) (aa 7)] [7],
   .asg (.one 5) (.call 16 [aa 3,aa 6])],
  .iff (.cmp .ne (.slc (aa 0) (aa 1) (.op2 .add (aa 1) (ai 1))) (.lit (S [41]))) [.raise aB] [],
  .ret (.tup [aa 5,.op2 .add (aa 1) (ai 1)])]⟩
noncomputable def mc:Fn:=⟨1,7,
  [.asg (.tup [1,2,3]) (.bi .part [aa 0,.lit (S [32,61,32])]),
  .asg (.one 4) (.bi .split [aa 1,.lit (S [32])]),
  .asg (.tup [5,6]) (.call 18 [aa 3,ai 0,.gl 9]),
  .iff (.cmp .ne (aa 6) (.bi .len [aa 3])) [.raise aB] [],
  .ret (.tup [.idx (aa 4) (ai 0),.bi .tuple [(.slc (aa 4) (ai 1) (.lit .none))],aa 5])]⟩
noncomputable def E1:Fn:=⟨1,4,
  [.asg (.one 1) (.bi .split [aa 0,.lit (S [10])]),
  .iff (.or [.cmp .lt (.bi .len [aa 1]) (ai 2),.cmp .ne (.idx (aa 1) (.neg (ai 1))) (.lit (S []))]) [.raise aB] [],
  .asg (.one 2) (.bi .tuple [.comp (.call 19 [aa 3]) (.one 3) .seq [(.slc (aa 1) (.lit .none) (.neg (ai 1)))] []]),
  .iff (.or [.not (.call 9 [aa 2]),.cmp .ne (.call 12 [aa 2]) (aa 0)]) [.raise aB] [],
  .ret (aa 2)]⟩
noncomputable def qr:Fn:=⟨2,2,
  [.iff (.cmp .lt (aa 1) (.bi .len [aa 0])) [.ret (.idx (aa 0) (aa 1))] [],
  .ret (ai 0)]⟩
noncomputable def yV:Fn:=⟨1,2,
  [.asg (.one 1) (.op2 .mod (.op2 .add (.op2 .mul (aa 0) (ai 48271)) (ai 11)) (ai 2147483647)),
  .ret (.op2 .mod (.op2 .mul (aa 1) (aa 1)) (ai 2147483629))]⟩
noncomputable def vw:Fn:=⟨1,3,
  [.asg (.one 1) (.list [ai 0,ai 1,ai 2,ai 3,ai 5,.neg (ai 1),.neg (ai 4),.tup [],.tup [ai 1],.tup [ai 2,ai 0],.tup [ai 1,ai 2,ai 3],.tup [(.tup []),ai 1],.tup [(.tup [ai 1,ai 2]),(.tup [ai 3])],.tup [ai 4,(.tup [ai 5,(.tup [ai 6])])]]),
  .iff (.cmp .eq (.op2 .mod (aa 0) (ai 16)) (ai 14)) [.ret (.op2 .add (.op2 .sub (.op2 .mod (.op2 .fdiv (aa 0) (ai 16)) (.op2 .sub (.op2 .mul (ai 2) (.op2 .pow (ai 10) (ai 18))) (ai 1))) (.op2 .pow (ai 10) (ai 18))) (ai 1))] [],
  .iff (.cmp .eq (.op2 .mod (aa 0) (ai 16)) (ai 15)) [.ret (.bi .tuple [.comp (.op2 .mod (.op2 .fdiv (aa 0) (ai 16)) (.op2 .add (aa 2) (ai 2))) (.one 2) .range [(.op2 .mod (.op2 .fdiv (aa 0) (ai 16)) (ai 9))] []])] [],
  .ret (.idx (aa 1) (.op2 .mod (aa 0) (ai 16)))]⟩
noncomputable def vz:Fn:=⟨1,8,
  [.iff (.cmp .eq (.op2 .mod (aa 0) (ai 9)) (ai 8)) [.asg (.one 1) (.list [.lit (S [105,102,115]),.lit (S [108,105,115,116,120]),.lit (S [112,108,117,115,50]),.lit (S [114,101,102,117,115,101,115]),.lit (S [114,101,115,116,101,100]),.lit (S [100,111,119,110,115]),.lit (S [115,97,109,101,49]),.lit (S [106,111,105,110,115]),.lit (S [111,118,101,114,115]),.lit (S [102,105,114,115,116,115])]),
   .asg (.one 1) (.op2 .add (aa 1) (.list [.lit (S [101,109,112,116,121,120]),.lit (S [97,57])])),
   .ret (.comp (.idx (aa 1) (.op2 .mod (.op2 .add (.op2 .fdiv (aa 0) (ai 9)) (aa 7)) (ai 12))) (.one 7) .range [ai 12] [])] [],
  .asg (.one 2) (.op2 .add (ai 1) (.op2 .mod (aa 0) (ai 8))),
  .asg (.one 3) (.op2 .mod (.op2 .fdiv (aa 0) (ai 8)) (aa 2)),
  .asg (.one 1) (.lit (S [97,98,99,100,101,102,103,104,105,106,107,108,109,110,111,112,113,114,115,116,117,118,119,120,121,122,48,49,50,51,52,53,54,55,56,57])),
  .asg (.one 4) (.list []),
  .for_ (.one 5) .range [ai 12] [.asg (.one 6) (.idx (aa 1) (.op2 .mod (.op2 .add (.op2 .fdiv (aa 0) (ai 64)) (aa 5)) (.idx (.list [ai 26,ai 36]) (.bi .int [.cmp .gt (aa 3) (ai 0)])))),
   .app (.var 4) (.op2 .add (.op2 .add (.op2 .mul (.lit (S [109])) (aa 3)) (aa 6)) (.op2 .mul (.lit (S [109])) (.op2 .sub (.op2 .sub (aa 2) (ai 1)) (aa 3))))] [5,6],
  .ret (aa 4)]⟩
noncomputable def BH:Fn:=⟨2,3,
  [.asg (.one 2) (.list [ai 0,ai 1,ai 2,.tup [],.tup [ai 1],.tup [ai 2,ai 0],.tup [(.tup []),ai 1],ai 3]),
  .iff (.cmp .eq (aa 1) (ai 1)) [.asg (.one 2) (.list [ai 3,.neg (ai 1),.tup [ai 1,ai 2],ai 0])] [],
  .iff (.cmp .eq (aa 1) (ai 2)) [.asg (.one 2) (.list [.tup [ai 0,(.tup [ai 1,(.tup [ai 2])])],.neg (ai 4),ai 2,.tup []])] [],
  .ret (.idx (aa 2) (.op2 .mod (aa 0) (.bi .len [aa 2])))]⟩
noncomputable def yU:Fn:=⟨3,7,
  [.asg (.one 3) (.op2 .mod (.op2 .fdiv (aa 0) (ai 5)) (ai 8)),
  .asg (.one 4) (.call 22 [aa 0]),
  .iff (.or [.cmp .eq (aa 1) (.list []),.cmp .eq (aa 3) (ai 0)]) [.ret (.tup [.lit (S [118,97,108,117,101]),.call 25 [aa 4,(.op2 .mod (.bi .len [aa 2]) (ai 3))]])] [],
  .asg (.one 5) (.tup [.lit (S [110,97,109,101]),.idx (aa 1) (.op2 .mod (aa 4) (.bi .len [aa 1]))]),
  .iff (.cmp .lt (aa 3) (ai 3)) [.ret (aa 5)] [],
  .asg (.one 6) (.idx (.list [.lit (S [100,111,119,110]),.lit (S [102,105,114,115,116]),.lit (S [114,101,115,116]),.lit (S [114,101,115,116]),.lit (S [100,111,119,110])]) (.op2 .sub (aa 3) (ai 3))),
  .iff (.and [.cmp .eq (aa 3) (ai 7),.cmp .eq (.op2 .mod (.op2 .fdiv (aa 4) (ai 7)) (ai 3)) (ai 0)]) [.ret (.tup [.lit (S [100,111]),.lit (S [114,101,115,116]),.tup [(.tup [(.lit (S [100,111])),(.lit (S [114,101,115,116])),(.tup [aa 5])])]])] [],
  .ret (.tup [.lit (S [100,111]),aa 6,.tup [aa 5]])]⟩
noncomputable def vy:Fn:=⟨6,8,
  [.asg (.one 6) (.list []),
  .for_ (.one 7) .range [aa 1] [.app (.var 6) (.call 30 [.call 22 [(.op2 .add (aa 0) (.op2 .mul (ai 7919) (aa 7)))],aa 2,aa 3,aa 4,aa 5])] [7],
  .ret (.bi .tuple [.pl (.var 6)])]⟩
noncomputable def yY:Fn:=⟨5,9,
  [.asg (.one 5) (.idx (aa 4) (.op2 .mod (aa 0) (.bi .len [aa 4]))),
  .asg (.one 6) (.list []),
  .for_ (.one 7) .range [.bi .len [(.idx (aa 5) (ai 1))]] [.asg (.one 8) (.call 22 [.op2 .add (aa 0) (.op2 .mul (ai 7919) (aa 7))]),
   .iff (.idx (.idx (aa 5) (ai 2)) (aa 7)) [.app (.var 6) (.call 26 [aa 8,aa 3,aa 4])] [.app (.var 6) (.call 30 [aa 8,aa 1,aa 2,aa 3,aa 4])]] [7,8],
  .ret (.tup [.lit (S [99,97,108,108]),.idx (aa 5) (ai 0),.bi .tuple [(.pl (.var 6))]])]⟩
noncomputable def E2:Fn:=⟨5,7,
  [.asg (.one 5) (.list [.lit (S [112,108,117,115]),.lit (S [109,105,110,117,115]),.lit (S [116,105,109,101,115]),.lit (S [111,118,101,114]),.lit (S [108,101,115,115]),.lit (S [115,97,109,101]),.lit (S [106,111,105,110]),.lit (S [102,105,114,115,116]),.lit (S [114,101,115,116]),.lit (S [101,109,112,116,121]),.lit (S [100,111,119,110]),.lit (S [108,105,115,116])]),
  .asg (.one 5) (.idx (aa 5) (.op2 .mod (aa 0) (ai 12))),
  .asg (.one 6) (ai 2),
  .iff (.cmp .isin (aa 5) (.tup [.lit (S [102,105,114,115,116]),.lit (S [114,101,115,116]),.lit (S [101,109,112,116,121]),.lit (S [100,111,119,110])])) [.asg (.one 6) (ai 1)] [],
  .iff (.cmp .eq (aa 5) (.lit (S [108,105,115,116]))) [.asg (.one 6) (.idx (.list [ai 0,ai 1,ai 2,ai 3,ai 8,ai 5,ai 1,ai 2]) (.op2 .mod (.op2 .fdiv (aa 0) (ai 12)) (ai 8)))] [],
  .iff (.cmp .gt (aa 6) (ai 3)) [.asg (.one 1) (ai 0)] [],
  .ret (.tup [.lit (S [100,111]),aa 5,.call 27 [(.call 22 [aa 0]),aa 6,aa 1,aa 2,aa 3,aa 4]])]⟩
noncomputable def yX:Fn:=⟨5,7,
  [.asg (.one 5) (.op2 .mod (.op2 .fdiv (aa 0) (ai 3)) (ai 13)),
  .asg (.one 6) (.call 22 [aa 0]),
  .iff (.or [.cmp .eq (aa 1) (ai 0),.cmp .lt (aa 5) (ai 3)]) [.iff (.and [.cmp .ne (aa 2) (.list []),.cmp .gt (.op2 .mod (aa 6) (ai 4)) (ai 0)]) [.ret (.tup [.lit (S [110,97,109,101]),.idx (aa 2) (.op2 .mod (.op2 .fdiv (aa 6) (ai 4)) (.bi .len [aa 2]))])] [],
   .ret (.tup [.lit (S [118,97,108,117,101]),.call 23 [(.op2 .fdiv (aa 6) (ai 4))]])] [],
  .iff (.cmp .lt (aa 5) (ai 6)) [.ret (.op2 .add (.tup [.lit (S [105,102])]) (.call 27 [aa 6,ai 3,.op2 .sub (aa 1) (ai 1),aa 2,aa 3,aa 4]))] [],
  .iff (.cmp .lt (aa 5) (ai 9)) [.ret (.call 29 [aa 6,.op2 .sub (aa 1) (ai 1),aa 2,aa 3,aa 4])] [],
  .iff (.cmp .lt (aa 5) (ai 12)) [.ret (.call 28 [aa 6,.op2 .sub (aa 1) (ai 1),aa 2,aa 3,aa 4])] [],
  .ret (.tup [.lit (S [114,101,102,117,115,101]),.idx (.list [(.lit (S [78,111,78,117,109,98,101,114])),(.lit (S [78,111,76,105,115,116])),(.lit (S [78,111,70,105,114,115,116])),(.lit (S [78,111,68,111,119,110])),(.lit (S [66,121,78,111,117,103,104,116])),(.lit (S [84,111,111,71,114,101,97,116]))]) (.op2 .mod (aa 6) (ai 6))])]⟩
noncomputable def vA:Fn:=⟨1,10,
  [.asg (.one 1) (.call 24 [.call 21 [aa 0,ai 0]]),
  .asg (.one 2) (.list []),
  .for_ (.one 3) .range [.op2 .add (ai 1) (.op2 .mod (.call 21 [aa 0,ai 1]) (ai 4))] [.asg (.one 4) (.call 21 [aa 0,.op2 .add (ai 2) (aa 3)]),
   .asg (.one 5) (.idx (.list [ai 1,ai 2,ai 3,ai 2,ai 0,ai 6,ai 3]) (.op2 .mod (aa 4) (ai 7))),
   .asg (.one 6) (.list []),
   .for_ (.one 7) .range [aa 5] [.asg (.one 8) (.cmp .eq (.op2 .mod (.op2 .fdiv (aa 4) (.idx (.list [ai 7,ai 14,ai 28,ai 56,ai 112,ai 224]) (aa 7))) (ai 2)) (ai 1)),
    .app (.var 6) (.and [aa 8,.cmp .lt (.bi .count [(.pl (.var 6)),(.lit (.bool true))]) (ai 2)])] [7,8],
   .app (.var 2) (.tup [.idx (aa 1) (aa 3),(.bi .tuple [(.comp (.idx (aa 1) (.op2 .mod (.op2 .add (.op2 .add (ai 2) (aa 3)) (aa 9)) (ai 12))) (.one 9) .range [aa 5] [])]),.bi .tuple [(.pl (.var 6))]])] [3,4,5,6,7,8],
  .ret (aa 2)]⟩
noncomputable def qp:Fn:=⟨2,13,
  [.asg (.one 2) (.list []),
  .for_ (.one 3) .range [.bi .len [aa 1]] [.asg (.tup [4,5,6]) (.idx (aa 1) (aa 3)),
   .asg (.one 7) (.comp (.idx (aa 5) (aa 12)) (.one 12) .range [.bi .len [aa 5]] [.idx (aa 6) (aa 12)]),
   .asg (.one 8) (.call 22 [(.op2 .add (.op2 .mul (.call 21 [aa 0,.op2 .add (ai 6) (aa 3)]) (ai 977)) (aa 3))]),
   .asg (.one 9) (.call 30 [aa 8,(.op2 .add (ai 1) (.op2 .mod (.op2 .fdiv (.call 21 [aa 0,ai 10]) (.op2 .add (aa 3) (ai 1))) (ai 3))),.bi .list [aa 5],aa 7,aa 1]),
   .iff (.and [(.cmp .gt (.op2 .mod (.op2 .fdiv (.call 21 [aa 0,ai 11]) (.op2 .add (aa 3) (ai 1))) (ai 3)) (ai 0)),.cmp .gt (.bi .len [aa 5]) (ai 0)]) [.asg (.one 10) (.call 22 [.op2 .add (aa 8) (ai 31)]),
    .asg (.one 11) (.tup [.lit (S [110,97,109,101]),.idx (aa 5) (.op2 .mod (aa 10) (.bi .len [aa 5]))]),
    .iff (.cmp .eq (.op2 .mod (.op2 .fdiv (aa 10) (ai 8)) (ai 2)) (ai 1)) [.asg (.one 11) (.tup [.lit (S [100,111]),.lit (S [101,109,112,116,121]),.tup [aa 11]])] [],
    .asg (.one 9) (.tup [.lit (S [105,102]),aa 11,aa 9,.call 30 [aa 10,ai 2,(.bi .list [aa 5]),aa 7,aa 1]])] [],
   .app (.var 2) (.tup [aa 4,aa 5,aa 9])] [3,4,5,6,7,8,9,10,11],
  .ret (.bi .tuple [.pl (.var 2)])]⟩
noncomputable def sj:Fn:=⟨2,5,
  [.no,.no,.no]⟩
noncomputable def qo:Fn:=⟨1,1,
  [.no]⟩
noncomputable def li:Fn:=⟨1,2,
  [.iff (.bi (.isi .tup) [aa 0]) [.ret (.op2 .add (.op2 .add (.lit (S [91])) (.bi .join [.lit (S [32]),.comp (.call 35 [aa 1]) (.one 1) .seq [aa 0] []])) (.lit (S [93])))] [],
  .ret (.bi .str [aa 0])]⟩
noncomputable def qm:Fn:=⟨1,4,
  [.iff (.cmp .eq (.idx (aa 0) (ai 0)) (.lit (S [118,97,108,117,101]))) [.ret (.call 35 [.idx (aa 0) (ai 1)])] [],
  .iff (.cmp .eq (.idx (aa 0) (ai 0)) (.lit (S [110,97,109,101]))) [.ret (.idx (aa 0) (ai 1))] [],
  .asg (.one 1) (.list [.idx (aa 0) (ai 0),.idx (aa 0) (ai 1)]),
  .iff (.cmp .eq (.idx (aa 0) (ai 0)) (.lit (S [105,102]))) [.asg (.one 1) (.op2 .add (.list [.lit (S [105,102])]) (.comp (.call 36 [aa 2]) (.one 2) .seq [.slc (aa 0) (ai 1) (.lit .none)] []))] [],
  .iff (.cmp .isin (.idx (aa 0) (ai 0)) (.tup [.lit (S [100,111]),.lit (S [99,97,108,108])])) [.asg (.one 1) (.op2 .add (.list [.idx (aa 0) (ai 1)]) (.comp (.call 36 [aa 3]) (.one 3) .seq [.idx (aa 0) (ai 2)] []))] [],
  .ret (.op2 .add (.op2 .add (.lit (S [40])) (.bi .join [.lit (S [32]),aa 1])) (.lit (S [41])))]⟩
noncomputable def yW:Fn:=⟨1,1,
  [.ret (.bi .join [.lit (S [32]),(.op2 .add (.op2 .add (.list [.idx (aa 0) (ai 0)]) (.bi .list [.idx (aa 0) (ai 1)])) (.list [.lit (S [61]),.call 36 [(.idx (aa 0) (ai 2))]]))])]⟩
noncomputable def yT:Fn:=⟨1,2,
  [.ret (.bi .join [.lit (S []),.comp (.op2 .add (.call 37 [aa 1]) (.lit (S [10]))) (.one 1) .seq [aa 0] []])]⟩
noncomputable def qq:Fn:=⟨3,8,
  [.asg (.one 3) (.op2 .mod (aa 2) (.bi .len [aa 0])),
  .asg (.one 4) (.idx (.lit (S [32,40,41,91,93,61,45,48,97,49,10,9,65,46])) (.op2 .mod (.op2 .fdiv (aa 2) (ai 997)) (ai 14))),
  .iff (.cmp .lt (aa 1) (ai 5)) [.ret (.op2 .add (.op2 .add (.slc (aa 0) (.lit .none) (aa 3)) (aa 4)) (.slc (aa 0) (aa 3) (.lit .none)))] [],
  .iff (.cmp .lt (aa 1) (ai 9)) [.ret (.op2 .add (.slc (aa 0) (.lit .none) (aa 3)) (.slc (aa 0) (.op2 .add (aa 3) (ai 1)) (.lit .none)))] [],
  .iff (.cmp .lt (aa 1) (ai 13)) [.ret (.op2 .add (.op2 .add (.slc (aa 0) (.lit .none) (aa 3)) (aa 4)) (.slc (aa 0) (.op2 .add (aa 3) (ai 1)) (.lit .none)))] [],
  .asg (.one 5) (.bi .split [aa 0,.lit (S [32])]),
  .asg (.one 6) (.op2 .mod (aa 2) (.bi .len [aa 5])),
  .iff (.cmp .eq (aa 1) (ai 13)) [.ret (.bi .join [.lit (S [32]),.op2 .add (.slc (aa 5) (.lit .none) (aa 6)) (.slc (aa 5) (.op2 .add (aa 6) (ai 1)) (.lit .none))])] [],
  .iff (.cmp .eq (aa 1) (ai 14)) [.ret (.bi .join [.lit (S [32]),(.op2 .add (.op2 .add (.slc (aa 5) (.lit .none) (aa 6)) (.list [.idx (aa 5) (aa 6)])) (.slc (aa 5) (aa 6) (.lit .none)))])] [],
  .iff (.cmp .eq (aa 1) (ai 15)) [.ret (.bi .join [.lit (S [32]),(.op2 .add (.op2 .add (.slc (aa 5) (.lit .none) (aa 6)) (.list [.op2 .add (.lit (S [48])) (.idx (aa 5) (aa 6))])) (.slc (aa 5) (.op2 .add (aa 6) (ai 1)) (.lit .none)))])] [],
  .rpl 0 1 16,
  .iff (.cmp .eq (aa 1) (ai 17)) [.ret (.op2 .add (aa 0) (.slc (aa 0) (.op2 .add (.bi .rfl [aa 0,aa 0]) (ai 1)) (.lit .none)))] [],
  .iff (.cmp .eq (aa 1) (ai 18)) [.ret (.slc (aa 0) (.lit .none) (.neg (ai 1)))] [],
  .iff (.cmp .eq (aa 1) (ai 19)) [.ret (.bi .up [aa 0])] [],
  .iff (.cmp .eq (aa 1) (ai 20)) [.ret (.op2 .add (aa 0) (.lit (S [10])))] [],
  .asg (.one 7) (.list [.lit (S []),.lit (S [10]),.lit (S [97,32,61,32,10]),.lit (S [61,32,49,10]),.lit (S [97,32,61,32,49]),.lit (S [97,32,61,32,45,48,10]),.lit (S [97,32,61,32,40,98,41,10]),.lit (S [97,32,61,32,91,97,93,10]),.lit (S [97,32,98,32,61,32,40,91,98,93,41,10]),.lit (S [97,32,61,32,49,32,10])]),
  .asg (.one 7) (.op2 .add (aa 7) (.list [(.op2 .add (.op2 .add (.lit (S [97,32,61,32])) (.op2 .mul (.lit (S [40])) (ai 1200))) (.lit (S [10]))),(.op2 .add (.op2 .add (.op2 .add (.lit (S [97,32,61,32])) (.op2 .mul (.lit (S [91])) (ai 1200))) (.op2 .mul (.lit (S [93])) (ai 1200))) (.lit (S [10])))])),
  .ret (.idx (aa 7) (.op2 .mod (aa 2) (ai 12)))]⟩
noncomputable def gO:Fn:=⟨1,3,
  [.try_ [.ret (.tup [.lit (.bool true),.call 20 [aa 0]])] [bo,bE,cN,b9,cO,bF,bD,b6,b8,aB] 1 [.asg (.one 2) (.isx 1 [bE,cN,b9,cO,bF,bD,b6,b8] [bo,aB]),
   .ret (.tup [.lit (.bool false),(.idx (.list [.lit (S [78,111,84,101,120,116]),.lit (S [111,116,104,101,114])]) (.bi .int [.or [aa 2,(.not (.isx 1 [aB] [bo,bE,cN,b9,cO,bF,bD,b6,b8])),(.not (.isx 1 [bo,bE,cN,b9,cO,bF,bD,b6,b8,aB] []))]]))])]]⟩
noncomputable def IQ:Fn:=⟨1,5,
  [.asg (.one 1) (.call 32 [aa 0,.call 31 [aa 0]]),
  .asg (.one 2) (.call 38 [aa 1]),
  .asg (.one 3) (.call 39 [aa 2,.op2 .mod (.call 21 [aa 0,ai 15]) (ai 24),.call 21 [aa 0,ai 16]]),
  .iff (.cmp .ne (.call 40 [aa 2]) (.tup [.lit (.bool true),aa 1])) [.ret (.lit (.bool false))] [],
  .asg (.one 4) (.call 40 [aa 3]),
  .iff (.idx (aa 4) (ai 0)) [.iff (.or [.cmp .isnot (.call 9 [(.idx (aa 4) (ai 1))]) (.lit (.bool true)),.cmp .ne (.call 38 [(.idx (aa 4) (ai 1))]) (aa 3),.cmp .ne (.call 12 [(.idx (aa 4) (ai 1))]) (aa 3)]) [.ret (.lit (.bool false))] []] [.iff (.cmp .ne (.idx (aa 4) (ai 1)) (.lit (S [78,111,84,101,120,116]))) [.ret (.lit (.bool false))] []],
  .iff (.and [.cmp .gt (.op2 .mod (.call 21 [aa 0,ai 15]) (ai 24)) (ai 15),.cmp .ne (aa 3) (aa 2),.idx (aa 4) (ai 0)]) [.ret (.lit (.bool false))] [],
  .ret (.cmp .eq (.call 40 [aa 2]) (.tup [.lit (.bool true),aa 1]))]⟩
noncomputable def P:Pr:=⟨[BA,r9,tO,tP,mI,ma,dc,jB,vm,vn,i4,gN],[qj,sk,lj,BF,vE,qt,vD,si,vG,vF,oi,vt,BG,vr,qk,se,BI,sf,jT,mc,E1,qr,yV,vw,vz,BH,yU,vy,yY,E2,yX,vA,qp,sj,qo,li,qm,yW,yT,qq,gO,IQ]⟩
noncomputable def nss:List (List Str):=[(["thing","room","is_number","left","part"] :List Str),
 (["thing"] :List Str),
 (["word"] :List Str),
 (["operation","many"] :List Str),
 (["text"] :List Str),
 (["things"] :List Str),
 (["expression","names"] :List Str),
 (["expression","counts","word","parts","is_right"] :List Str),
 (["thing","room","names","counts","parts"] :List Str),
 (["program","counts","function"] :List Str),
 (["value"] :List Str),
 (["expression","words"] :List Str),
 (["program","rows","name","parameters","body"] :List Str),
 (["row","at","end"] :List Str),
 (["word","figures"] :List Str),
 (["row","at","room","word","found","part"] :List Str),
 (["head","parts"] :List Str),
 (["row","at","word","value"] :List Str),
 (["row","at","room","head","word","found","parts","part"] :List Str),
 (["row","head","mark","body","words","expression","at"] :List Str),
 (["text","rows","program"] :List Str),
 (["_law_script","_law_k"] :List Str),
 (["_law_pick","_law_more"] :List Str),
 (["_law_pick","_law_some"] :List Str),
 (["_law_cell","_law_some","_law_size","_law_place","_law_found","_law_k","_law_sign"] :List Str),
 (["_law_pick","_law_way","_law_some"] :List Str),
 (["_law_pick","_law_known","_law_heads_here","_law_way","_law_more","_law_name","_law_word"] :List Str),
 (["_law_pick","_law_many","_law_deep","_law_names_here","_law_known","_law_heads_here","_law_found","_law_k"] :List Str),
 (["_law_pick","_law_deep","_law_names_here","_law_known","_law_heads_here","_law_head","_law_parts_here","_law_k","_law_more"] :List Str),
 (["_law_pick","_law_deep","_law_names_here","_law_known","_law_heads_here","_law_word","_law_many"] :List Str),
 (["_law_pick","_law_deep","_law_names_here","_law_known","_law_heads_here","_law_way","_law_more"] :List Str),
 (["_law_script","_law_names_here","_law_found","_law_k","_law_cell","_law_many","_law_wanted","_law_j","_law_known"] :List Str),
 (["_law_script","_law_heads_here","_law_program_here","_law_k","_law_name","_law_params","_law_wanted","_law_known","_law_pick","_law_body","_law_more","_law_test"] :List Str),
 (["_law_script","_law_many","_law_found","_law_k","_law_cell"] :List Str),
 (["_law_heads_here"] :List Str),
 (["_law_value_here"] :List Str),
 (["_law_form_here","_law_words"] :List Str),
 (["_law_function"] :List Str),
 (["_law_program_here"] :List Str),
 (["_law_text_here","_law_way","_law_cell","_law_at","_law_sign","_law_words","_law_place","_law_odd"] :List Str),
 (["_law_text_here","e","_law_others"] :List Str),
 (["_law_script","_law_program_here","_law_text_here","_law_changed_here","_law_told"] :List Str)]
noncomputable def gls:List Str:=["GREAT","HEAVIEST","WORDS","PAIRS","SINGLES","MOST_LISTED","LETTERS","FIGURES","LONGEST","DEEPEST","MOST_PARAMETERS","MOST_FIGURES"]
noncomputable def cls:List Str:=[bo,bE,cN,b9,cO,bF,bD,b6,b8,aB]
noncomputable def sb:List (Str×List Str×List Str):=[(bo,[bo,bE,cN,b9,cO,bF,bD,b6,b8,aB],[]),(aB,[aB],[bo,bE,cN,b9,cO,bF,bD,b6,b8]),(⟨#[86,97,108,117,101,69,114,114,111,114]⟩,[bo,bE,cN,b9,cO,bF,bD,b6,b8,aB],[])]
noncomputable def sbt:List (List Str×List Str×List Str):=[([bE,cN,b9,cO,bF,bD,b6,b8],[bE,cN,b9,cO,bF,bD,b6,b8],[bo,aB])]
end Lq
namespace Mv
open PySem PyProof.Rows
structure Tb where
 fn:List DefRec
 gl:List Str
 cl:List Str:=[]
 sub:List (Str×List Str×List Str):=[]
 sbt:List (List Str×List Str×List Str):=[]
noncomputable def tb:Tb:=⟨recsOf Hq.view,Lq.gls,Lq.cls,Lq.sb,Lq.sbt⟩
structure Sc where
 names:List (Str×NameKind)
 vars:List (Str×Nat)
 hi:Nat
def Sc.isG (sc:Sc) (x:Str) :Prop:=sc.names.lookup x = some .globalImplicit∧(x == ("__debug__" :Str)) = false
def Sc.isV (sc:Sc) (x:Str) (i:Nat) :Prop:=sc.vars.lookup x = some i∧(x == ("__debug__" :Str)) = false
inductive eM:Const->D->Prop
 |none:eM .none .none
 |bool (b:Bool):eM (.bool b) (.bool b)
 |int (i:Int):eM (.int i) (.int i)
 |str (x:Str):PyData.strOk x=true->x.cps.size<=Sz->eM (.str x) (.str x)
noncomputable def xn:lU->Operator
 |.add=>.Add|.sub=>.Sub|.mul=>.Mult|.fdiv=>.FloorDiv|.mod=>.Mod|.pow=>.Pow
mutual
noncomputable def aG:Ex->List Nat
 |.lit _=>[]|.gl _=>[]|.var _=>[]|.pl _=>[]|.isx _ _ _=>[]
 |.tup es=>bC es
 |.list es=>bC es
 |.op2 _ a b=>aG a++aG b
 |.neg a=>aG a
 |.not a=>aG a
 |.cmp _ a b=>aG a++aG b
 |.cmp2 _ _ a b c=>aG a++aG b++aG c
 |.and es=>bC es
 |.or es=>bC es
 |.ite c a b=>aG c++aG a++aG b
 |.idx a i=>aG a++aG i
 |.slc a l h=>aG a++aG l++aG h
 |.call _ es=>bC es
 |.bi _ es=>bC es
 |.comp e t _ bN cs=>aL t++aG e++bC bN++bC cs
noncomputable def bC:List Ex->List Nat
 |[]=>[]
 |e::es=>aG e++bC es
end
noncomputable def MC:Ex->List Nat
 |.pl (.var i)=>[i]
 |_=>[]
def Apart (x:Ex) (bv:List Nat):Prop:= ∀i∈MC x,i∉bv
noncomputable def dB:Bi->Str
 | .len=>"len" | .isi _=>"isinstance" | .all=>"all" | .int=>"int" | .str=>"str" | .tuple=>"tuple" | .list=>"list"
 | _=>"len"
noncomputable def Bi.one:Bi->Bool
 |.len=>true|.all=>true|.int=>true|.str=>true|.tuple=>true|.list=>true
 |_=>false
noncomputable def aR:Expr->Bool
 |.Name _ _=>true
 |.Constant _ _ _=>true
 |_=>false
class inductive KS:List (Option Expr)->List Str->Prop
 |nil:KS [] []
 |cons {k:Str} {kk:Nat} {p:Pos} {es:List (Option Expr)} {ks:List Str}:KS es ks->KS (some (.Constant (.str k) kk p)::es) (k::ks)
inductive BX (sc:Sc):Expr->Bi->List Expr->Prop
 | lenset {p p' pos jR:Pos} {a:Expr} :sc.isG "len"→sc.isG "set"→BX sc (.Call (.Name "len" p) [.Call (.Name "set" p') [a] [] jR] [] pos) .lenset [a]
 | dget {aN pos:Pos} {a k:Expr} :aR a = true→aR k = true→(aN.endLine == pos.line) = true→BX sc (.Call (.Attribute a "get" aN) [k] [] pos) .dget [a,k]
 | count {aN pos:Pos} {a k:Expr} :aR a = true→aR k = true→(aN.endLine == pos.line) = true→BX sc (.Call (.Attribute a "count" aN) [k] [] pos) .count [a,k]
 |dict0 {pos:Pos}:BX sc (.Dict [] [] pos) .dict0 []
 | split {aN pos:Pos} {a k:Expr} :aR a = true→aR k = true→(aN.endLine == pos.line) = true→BX sc (.Call (.Attribute a "split" aN) [k] [] pos) .split [a,k]
 | part {aN pos:Pos} {a k:Expr} :aR a = true→aR k = true→(aN.endLine == pos.line) = true→BX sc (.Call (.Attribute a "partition" aN) [k] [] pos) .part [a,k]
 | join {x:Str} {kk:Nat} {p aN pos:Pos} {k:Expr} :(aN.endLine == pos.line) = true→BX sc (.Call (.Attribute (.Constant (.str x) kk p) "join" aN) [k] [] pos) .join [.Constant (.str x) kk p,k]
 | up {aN pos:Pos} {a:Expr} :aR a = true→(aN.endLine == pos.line) = true→BX sc (.Call (.Attribute a "upper" aN) [] [] pos) .up [a]
 | rfl {aN pos lp xW zC p1 p2 p3:Pos} {k1 k2 k3:Nat} {a a':Expr} :sc.isG "len"→aR a = true→aR a' = true→(aN.endLine == pos.line) = true→
   BX sc (.Call (.Attribute a "rfind" aN) [.Constant (.str ⟨#[10]⟩) k1 p1,.Constant (.int 0) k2 p2,.BinOp (.Call (.Name "len" lp) [a'] [] xW) .Sub (.Constant (.int 1) k3 p3) zC] [] pos) .rfl [a,a']
noncomputable def bG (scope:Scope) (sc:Sc) (vs:List Str) (i:Nat):Sc:=⟨scope.names,vs.zipIdx i++sc.vars.filter λp=>decide (scope.names.lookup p.1=some .free),i+vs.length⟩
inductive CG (i:Nat):Expr->List Str->fQ->Prop
 |one {v:Str} {p:Pos}:CG i (.Name v p) [v] (.one i)
structure gU (scope:Scope) (sc:Sc) (vs:List Str):Prop where
 kind:scope.kind = .function
 names:∀x∈scope.names,x.2 = .local->scope.names.lookup x.1=some .local
 cell:∀x∈scope.names,x.2≠ .cell
 loc:∀v∈vs,scope.names.lookup v=some .local
 vnd:vs.Nodup
 free:∀x∈scope.names,x.2 = .free→scope.names.lookup x.1 = some .free∧(x.1 == ("__classdict__" :Str)) = false∧(∃i,sc.vars.lookup x.1 = some i)∧(sc.names.lookup x.1 = some .cell∨sc.names.lookup x.1 = some .free)
 nodup:((scope.names.filter λx=>x.2 == .free).map (·.1)).Nodup
class inductive NS (sc:Sc):List Expr->List Str->Prop
 |nil:NS sc [] []
 |cons {x:Str} {p:Pos} {es:List Expr} {xs:List Str}:sc.isG x->NS sc es xs->NS sc (.Name x p::es) (x::xs)
inductive Sy where
 |e (e:Expr) (x:Ex)
 |s (es:List Expr) (xs:List Ex)
 |o (o:Option Expr) (x:Ex)
 |i (e:Expr) (it:iU) (bN:List Ex)
class inductive CQ:Sc->Sy->Prop
 |lit {sc:Sc} {c:Const} {k:Nat} {pos:Pos} {d:D}:eM c d->CQ sc (.e (.Constant c k pos) (.lit d))
 |var {sc:Sc} {x:Str} {pos:Pos} {i:Nat}:sc.isV x i->CQ sc (.e (.Name x pos) (.var i))
 |pl {sc:Sc} {x:Str} {pos:Pos} {i:Nat}:sc.isV x i->CQ sc (.e (.Name x pos) (.pl (.var i)))
 |gl {sc:Sc} {x:Str} {pos:Pos} {k:Nat}:sc.isG x->tb.gl[k]? = some x->CQ sc (.e (.Name x pos) (.gl k))
 |tup {sc:Sc} {es:List Expr} {k:Nat} {pos:Pos} {xs:List Ex}:CQ sc (.s es xs)->xs.length<=1000->CQ sc (.e (.Tuple es k pos) (.tup xs))
 |list {sc:Sc} {es:List Expr} {pos:Pos} {xs:List Ex}:CQ sc (.s es xs)->xs.length<=1000->CQ sc (.e (.List es pos) (.list xs))
 |op2 {sc:Sc} {a b:Expr} {pos:Pos} {o:lU} {x y:Ex}:CQ sc (.e a x)->CQ sc (.e b y)->Apart x (aG y)->CQ sc (.e (.BinOp a (xn o) b pos) (.op2 o x y))
 |neg {sc:Sc} {a:Expr} {pos:Pos} {x:Ex}:CQ sc (.e a x)->CQ sc (.e (.UnaryOp .USub a pos) (.neg x))
 |not {sc:Sc} {a:Expr} {pos:Pos} {x:Ex}:CQ sc (.e a x)->CQ sc (.e (.UnaryOp .Not a pos) (.not x))
 |cmp {sc:Sc} {a b:Expr} {pos:Pos} {o:Cm} {x y:Ex}:CQ sc (.e a x)->CQ sc (.e b y)->Apart x (aG y)->CQ sc (.e (.Compare a [fg o] [b] pos) (.cmp o x y))
 |cmp2 {sc:Sc} {a b e:Expr} {pos:Pos} {o p:Cm} {x y z:Ex}:CQ sc (.e a x)->CQ sc (.e b y)->CQ sc (.e e z)->CQ sc (.e (.Compare a [fg o,fg p] [b,e] pos) (.cmp2 o p x y z))
 |and {sc:Sc} {es:List Expr} {pos:Pos} {xs:List Ex}:CQ sc (.s es xs)->CQ sc (.e (.BoolOp .And es pos) (.and xs))
 |or {sc:Sc} {es:List Expr} {pos:Pos} {xs:List Ex}:CQ sc (.s es xs)->CQ sc (.e (.BoolOp .Or es pos) (.or xs))
 |ite {sc:Sc} {t a b:Expr} {pos:Pos} {x y z:Ex}:CQ sc (.e t x)->CQ sc (.e a y)->CQ sc (.e b z)->CQ sc (.e (.IfExp t a b pos) (.ite x y z))
 |idx {sc:Sc} {a i:Expr} {pos:Pos} {x z:Ex}:CQ sc (.e a x)->CQ sc (.e i z)->Apart x (aG z)->CQ sc (.e (.Subscript a i pos) (.idx x z))
 |slc {sc:Sc} {a:Expr} {lo hi:Option Expr} {p pos:Pos} {x l h:Ex}:CQ sc (.e a x)->CQ sc (.o lo l)->CQ sc (.o hi h)->Apart x (aG l++aG h)->CQ sc (.e (.Subscript a (.Slice lo hi none p) pos) (.slc x l h))
 |call {sc:Sc} {f:Nat} {d:DefRec} {p pos:Pos} {args:List Expr} {xs:List Ex}:tb.fn[f]? = some d->sc.isG d.name->CQ sc (.s args xs)->args.length<=29->CQ sc (.e (.Call (.Name d.name p) args [] pos) (.call f xs))
 |bi1 {sc:Sc} {b:Bi} {p pos:Pos} {a:Expr} {x:Ex}:b.one=true->sc.isG (dB b)->CQ sc (.e a x)->CQ sc (.e (.Call (.Name (dB b) p) [a] [] pos) (.bi b [x]))
 | isi {sc:Sc} {t:Ty} {p p' pos:Pos} {a:Expr} {x:Ex} :sc.isG "isinstance"→sc.isG (cy t)→CQ sc (.e a x)→CQ sc (.e (.Call (.Name "isinstance" p) [a,.Name (cy t) p'] [] pos) (.bi (.isi t) [x]))
 |comp {sc:Sc} {cb iter g:Expr} {vs:List Str} {t:fQ} {pos:Pos} {d9:List Expr} {scope:Scope} {i:Nat} {it:iU} {bN aq:List Ex} {x:Ex}:CG i g vs t->CQ sc (.i iter it bN)->gU scope sc vs->sc.hi<=i->
   CQ (bG scope sc vs i) (.e cb x)->CQ (bG scope sc vs i) (.s d9 aq)->(∀j∈aL t,j∉aG x/\j∉bC aq)->CQ sc (.e (.ListComp cb [⟨g,iter,d9,0⟩] scope pos) (.comp x t it bN aq))
 | isx {sc:Sc} {x C:Str} {p p1 p2 pos:Pos} {i:Nat} {yes no:List Str} :sc.isG "isinstance"→sc.isV x i→sc.isG C→tb.sub.lookup C = some (yes,no)→CQ sc (.e (.Call (.Name "isinstance" p) [.Name x p1,.Name C p2] [] pos) (.isx i yes no))
 | isxt {sc:Sc} {x:Str} {cs:List Str} {es:List Expr} {p p1 p2 pos:Pos} {k i:Nat} {yes no:List Str} :sc.isG "isinstance"→sc.isV x i→NS sc es cs→cs.length≤1000→tb.sbt.lookup cs = some (yes,no)→CQ sc (.e (.Call (.Name "isinstance" p) [.Name x p1,.Tuple es k p2] [] pos) (.isx i yes no))
 |bx {sc:Sc} {e:Expr} {b:Bi} {es:List Expr} {xs:List Ex}:BX sc e b es->CQ sc (.s es xs)->CQ sc (.e e (.bi b xs))
 |nil {sc:Sc}:CQ sc (.s [] [])
 |cons {sc:Sc} {e:Expr} {es:List Expr} {x:Ex} {xs:List Ex}:CQ sc (.e e x)->CQ sc (.s es xs)->Apart x (bC xs)->CQ sc (.s (e::es) (x::xs))
 |onone {sc:Sc}:CQ sc (.o none (.lit .none))
 |osome {sc:Sc} {e:Expr} {x:Ex}:CQ sc (.e e x)->CQ sc (.o (some e) x)
 |seq {sc:Sc} {e:Expr} {x:Ex}:CQ sc (.e e x)->CQ sc (.i e .seq [x])
 | range {sc:Sc} {p pos:Pos} {e:Expr} {x:Ex} :sc.isG "range"→CQ sc (.e e x)→CQ sc (.i (.Call (.Name "range" p) [e] [] pos) .range [x])
abbrev CE (sc:Sc) (e:Expr) (x:Ex):Prop:=CQ sc (.e e x)
abbrev wc (sc:Sc) (es:List Expr) (xs:List Ex):Prop:=CQ sc (.s es xs)
abbrev Mo (sc:Sc) (o:Option Expr) (x:Ex):Prop:=CQ sc (.o o x)
abbrev IT (sc:Sc) (e:Expr) (it:iU) (bN:List Ex):Prop:=CQ sc (.i e it bN)
noncomputable def iJ:Expr->Bool
 |.ListComp ..=>false
 |.SetComp ..=>false
 |.DictComp ..=>false
 |_=>true
noncomputable def pB:Expr->Bool
 |.Tuple _ _ _=>false
 |_=>true
inductive Mm (e:Expr) (env:Env) (rest:List Expr) (op:CmpOp) (v o' i':Value) (o i:Expr) (p:Pos) (l:Nat) (t:Option Expr) (es:List Expr) (k:Nat):Prop
 |mk:starEach (e::rest) env=(false,eval e env)::starEach rest env->behindInMarks op e=false->foldedSetIterable e env v=pure v->subscripted e false o' i'=operate [o',i'] (getItem o' i')->
  swapsWith e (some (.Subscript o i p)) l env=pure false->(iJ e=false\/swapsWith e t l env=pure false)->(pB e=false\/swappedStores [.Tuple es k p] e env=pure none)->Mm e env rest op v o' i' o i p l t es k
noncomputable def shp:Expr->Bool
 |.Starred _ _=>false
 |.Set _ _ _=>false
 |.Slice _ _ _ _=>false
 |.SetComp _ _ _ _=>false
 |.DictComp _ _ _ _ _=>false
 |_=>true
inductive Sx:Ex->Prop
 |lit (d:D):Sx (.lit d)
 |var (i:Nat):Sx (.var i)
 |pl (p:Pl):Sx (.pl p)
 |gl (k:Nat):Sx (.gl k)
inductive CI (sc:Sc):Expr->Ex->Prop
 |comp {cb iter g:Expr} {vs:List Str} {t:fQ} {pos:Pos} {d9:List Expr} {scope:Scope} {i:Nat} {it:iU} {bN aq:List Ex} {x:Ex}:CG i g vs t->IT sc iter it bN->gU scope sc vs->sc.hi<=i->
   CE (bG scope sc vs i) cb x->wc (bG scope sc vs i) d9 aq->(∀j∈aL t,j∉aG x/\j∉bC aq)->CI sc (.ListComp cb [⟨g,iter,d9,0⟩] scope pos) (.comp x t it bN aq)
 |lit {c:Const} {k:Nat} {pos:Pos} {d:D}:eM c d->CI sc (.Constant c k pos) (.lit d)
 |nm {x:Str} {pos:Pos} {z:Ex}:Sx z->CI sc (.Name x pos) z
 |other {e:Expr} {z:Ex}:iJ e=true->aR e=false->shp e=true->CI sc e z
def Nx (sc:Sc):Sy->Prop
 |.e e x=>CI sc e x
 |.i e _ _=>(∃x,CE sc e x)\/ ∀(env:Env) (v:Value),foldedSetIterable e env v=pure v
 |_=>True
theorem CQ.ci {sc:Sc} {q:Sy} (h:CQ sc q):Nx sc q:=
 CQ.casesOn (motive:=λsc q ac=>Nx sc q) h (λh=>CI.lit h) (λac=>CI.nm (.var _)) (λac=>CI.nm (.pl _)) (λac az=>CI.nm (.gl _)) (λac az=>CI.other rfl rfl rfl) (λac az=>CI.other rfl rfl rfl) (λac az cL=>CI.other rfl rfl rfl) (λac=>CI.other rfl rfl rfl) (λac=>CI.other rfl rfl rfl) (λac az cL=>CI.other rfl rfl rfl) (λac az cL=>CI.other rfl rfl rfl) (λac=>CI.other rfl rfl rfl) (λac=>CI.other rfl rfl rfl) (λac az cL=>CI.other rfl rfl rfl) (λac az cL=>CI.other rfl rfl rfl) (λac az cL lS=>CI.other rfl rfl rfl) (λac az cL lS=>CI.other rfl rfl rfl) (λac az cL=>CI.other rfl rfl rfl) (λac az cL=>CI.other rfl rfl rfl) (λh0 h1 h2 h3 h4 h5 h6=>CI.comp h0 h1 h2 h3 h4 h5 h6) (λac az cL lS=>CI.other rfl rfl rfl) (λac az cL lS Ic=>CI.other rfl rfl rfl) (fun {sc _ _ _ xs} h _=>BX.casesOn (motive:=λe b ac az=>CI sc e (.bi b xs)) h (λac az=>.other rfl rfl rfl) (λac az cL=>.other rfl rfl rfl) (λac az cL=>.other rfl rfl rfl) (.other rfl rfl rfl) (λac az cL=>.other rfl rfl rfl) (λac az cL=>.other rfl rfl rfl) (λac=>.other rfl rfl rfl) (λac az=>.other rfl rfl rfl) (λac az cL lS=>.other rfl rfl rfl)) trivial (λac az cL=>trivial) trivial (λac=>trivial) (λh=>.inl ⟨_,h⟩) (λac az=>.inr λac az=>rfl)
theorem CE.ci {sc:Sc} {x:Ex} (h:CE sc e x):CI sc e x:=CQ.ci h
theorem CE.shp {sc:Sc} {x:Ex} (h:CE sc e x):shp e=true:=CI.casesOn (motive:=λe ac az=>Mv.shp e=true) h.ci (λac az cL lS Ic NZ NY=>rfl) (λac=>rfl) (λac=>rfl) λac az h=>h
theorem CE.sx {sc:Sc} {k:Expr} {z:Ex} (ce:CE sc k z):aR k=true->Sx z:=CI.casesOn (motive:=λk z ac=>aR k=true->Sx z) ce.ci (λac az cL lS Ic NZ NY q=>noConfusion q) (fun {_ _ _ d} _ _=>.lit d) (λh ac=>h) λac h az q=>noConfusion (h.symm.trans q)
theorem DH (env:Env) (rest:List Expr) (op:CmpOp) (v o' i':Value) (o i:Expr) (p:Pos) (l:Nat) (t:Option Expr) (es:List Expr) (k:Nat) (h:shp e=true):Mm e env rest op v o' i' o i p l t es k:=by
 cases e<;>first|exact .mk rfl rfl rfl rfl rfl (.inr rfl) (.inr rfl)|exact .mk rfl rfl rfl rfl rfl (.inl rfl) (.inr rfl)|exact .mk rfl rfl rfl rfl rfl (.inr rfl) (.inl rfl)|cases h
theorem CE.epl {sc:Sc} {x:Ex} (env:Env) (rest:List Expr) (op:CmpOp) (v o' i':Value) (o i:Expr) (p:Pos) (l:Nat) (t:Option Expr) (es:List Expr) (k:Nat) (h:CE sc e x):Mm e env rest op v o' i' o i p l t es k:=DH env rest op v o' i' o i p l t es k h.shp
theorem CE.star {sc:Sc} {x:Ex} (h:CE sc e x) (env:Env) (rest:List Expr):starEach (e::rest) env=(false,eval e env)::starEach rest env:=by
 cases CE.epl env rest .Eq .none .none .none e e e.pos 0 none [] 0 h;assumption
theorem CE.noSet {sc:Sc} {x:Ex} (h:CE sc e x) (op:CmpOp):behindInMarks op e=false:=by
 cases CE.epl default [] op .none .none .none e e e.pos 0 none [] 0 h;assumption
theorem CE.noFold {sc:Sc} {x:Ex} (h:CE sc e x) (env:Env) (v:Value):foldedSetIterable e env v=pure v:=by
 cases CE.epl env [] .Eq v .none .none e e e.pos 0 none [] 0 h;assumption
theorem CE.isPlain {sc:Sc} {x:Ex} (h:CE sc e x) (o i:Value):subscripted e false o i=operate [o,i] (getItem o i):=by
 cases CE.epl default [] .Eq .none o i e e e.pos 0 none [] 0 h;assumption
theorem uz {sc:Sc} {z:Ex} {o i:Expr} {p:Pos} {l:Nat} (ce:CE sc e z):swapsWith e (some (.Subscript o i p)) l env=pure false:=by
 cases CE.epl env [] .Eq .none .none .none o i p l none [] 0 ce;assumption
theorem gx {sc:Sc} {z:Ex} {t:Option Expr} {l:Nat} (ce:CE sc e z) (h:iJ e=true):swapsWith e t l env=pure false:=by
 cases CE.epl env [] .Eq .none .none .none e e e.pos l t [] 0 ce with
 |mk _ _ _ _ _ a _=>exact a.elim (λq=>by have h:=q▸h;cases h) id
theorem rj {sc:Sc} {k:Nat} {p:Pos} {e:Ex} (ce:CE sc value e) (h:pB value=true):swappedStores [.Tuple es k p] value env=pure none:=by
 cases CE.epl env [] .Eq .none .none .none value value p 0 none es k ce with
 |mk _ _ _ _ _ _ a=>exact a.elim (λq=>by have h:=q▸h;cases h) id
theorem IT.noFold {sc:Sc} {it:iU} {bN:List Ex} (h:IT sc e it bN) (env:Env) (v:Value):foldedSetIterable e env v=pure v:=(CQ.ci h).elim (λ⟨_,h⟩=>CE.noFold h env v) λq=>q env v
theorem aX {m:cR α} {k:α->Fm->cR β} {o:Except Str β×Fm} (h:aT m k=some o):(∃e fr,m=some (.error e,fr)/\o=(.error e,fr))\/ ∃a fr,m=some (.ok a,fr)/\k a fr=some o:=by
 rcases m with _|⟨_|a,fr⟩
 .exact ah h
 .exact .inl ⟨_,_,rfl,(Y5 h).symm⟩
 .exact .inr ⟨_,_,rfl,h⟩
inductive FS {α:Type} (fr:Fm) (m:Option α) (o:Except Str α×Fm):Prop
 |mk (a:α):m=some a->o=(.ok a,fr)->FS fr m o
theorem gG {fr:Fm} {m:Option α} {o:Except Str α×Fm} (h:px fr m=some o):FS fr m o:=by
 cases m with
 |none=>exact ah h
 |some a=>exact⟨a,rfl,(Y5 h).symm⟩
theorem fM {fr:Fm} {m:Option Rv} {o:Except Str Rv×Fm} (h:oE fr m=some o):FS fr m o:=by
 rcases m with _|⟨_|_|_⟩
 .exact ah h
 .exact⟨_,rfl,(aF h).symm⟩
 .exact⟨_,rfl,(aF h).symm⟩
 .exact ah h
variable [Hp]
theorem im.det {l:Loc} {v v':Value} (x:im h l v) (z:im h l v'):v=v':=by
 cases l with
 |dict a n=>
  obtain⟨m,⟨o,es,ep,ho,hd,hk,hf⟩,e⟩:=x;obtain⟨m',⟨o',Kb,Kc,qX,di,f5,CJ⟩,e'⟩:=z;rw[ho]at qX;obtain rfl:=aF qX;rw[hd]at di;cases di;rw[<- hf,CJ,e']at e;obtain rfl:=aF e;rfl
 |cell a=>
  obtain⟨o,ho,hd⟩:=x;obtain⟨o',qX,di⟩:=z;rw[ho]at qX;obtain rfl:=aF qX;have di:=hd▸di;cases di;rfl
def FX (F:Addr->Prop) (A:Around):Prop:= ∃l,A.frames=some l/\ ∀e∈l,e.scope.kind≠ .module/\ ∃L,e.frame=some L/\F L
structure aS (A:Around) (sc:Sc) (env:Env) (y:Lay):Prop where
 stk:FX (λa=>y.F a\/a=y.L) A
 hi:∀i l,y.loc i=some l->i<sc.hi
 kind:env.scope.kind = .function
 glob:env.globals=mainGlobals
 blt:env.builtins=builtinsNs
 frame:env.frame=some y.L
 top:∃e0 dU,A.frames=some (e0::dU)/\e0.frame=env.frame
 var:∀x i,sc.vars.lookup x = some i→(env.kindOf x = some .local∧y.loc i = some (.dict env.locals x))∨((env.kindOf x = some .cell∨(env.kindOf x = some .free∧(x == ("__classdict__" :Str)) = false))∧ ∃c,env.cells.lookup x = some c∧y.loc i = some (.cell c))
 gl:∀x,sc.names.lookup x=some .globalImplicit->env.kindOf x=some .globalImplicit
 cf:∀x,sc.names.lookup x=some .cell\/sc.names.lookup x=some .free->env.kindOf x=some .cell\/env.kindOf x=some .free
noncomputable def ig:List Str:=["len","isinstance","sum","all","abs","int","str","tuple","list","bool","range","set","zip","dict"]
def fq (B:Heap) (C:Addr) (V:Value) (b:Bool):Prop:= ∀(prog:Program) (w:World) (A:Around) (E:Value->Shared->Prop) (s:Shared) (a:Addr) (o:Obj),(∀a o,B.get? a=some o->s.heap.get? a=some o)->s.heap.get? a=some o->(o.cls = .ref C/\o.dict=none/\ ∃vs,o.data = .fields vs)->
 (∀Q:Bool→Shared→Prop,Q b s→wpAny (model prog w) A (excMatches (.ref a) V) Q E s)∧ ∀Q:Value→Shared→Prop,(∀tk,Q (.bool b) {s with toks:=tk})→wpAny (model prog w) A (call (.builtin "isinstance") [.ref a,V]) Q E s
def dO (B:Heap) (C:Addr) (Vs:List Value) (b:Bool):Prop:= ∀(prog:Program) (w:World) (A:Around) (E:Value->Shared->Prop) (s:Shared) (a tp:Addr) (o:Obj),(∀a o,B.get? a=some o->s.heap.get? a=some o)->s.heap.get? a=some o->(o.cls = .ref C/\o.dict=none/\ ∃vs,o.data = .fields vs)->
 s.heap.get? tp = some {cls:=.type "tuple",data:=.seq Vs.toArray}→ ∀Q:Value→Shared→Prop,(∀tk,Q (.bool b) {s with toks:=tk})→wpAny (model prog w) A (call (.builtin "isinstance") [.ref a,.ref tp]) Q E s
def gj (mg mb:Str->Option Value):List Str->List Value->Prop
 |[],[]=>True
 |x::xs,v::vs=>(mg x=some v\/(mg x=none/\mb x=some v))/\gj mg mb xs vs
 |_,_=>False
structure Gd (glob:List D):Prop where
 g:B.Ns mainGlobals mg
 b:B.Ns builtinsNs mb
 nl:B.NoLimit
 bt:∀x:Str,x≠"__name__"→mb x = bootBuiltins x
 fn:∀(f:Nat) (d:DefRec),tb.fn[f]? = some d-> ∃a o pm code qE,mg d.name=some (.ref a)/\B.get? a=some o/\o.data = .func (docDef d.name d.params d.body d.scope pm code qE)/\B.CodeRec code d.name
 gl:∀(k:Nat) (x:Str) (d:D),tb.gl[k]? = some x->glob[k]? = some d-> ∃v,mg x=some v/\ ∀(h:Heap) (Z:Addr->Prop),(∀a o,B.get? a=some o->h.get? a=some o)->(∀a o,B.get? a=some o->Z a)->bS h Z v d
 bi:∀x∈ig,mg x=none
 cl:∀k∈tb.cl, ∃C Bb newId gJ bm,OwnClsQ k C bm newId mg B/\ExcBaseFacts Bb newId gJ bm
 ask:∀c yes no,tb.sub.lookup c=some (yes,no)-> ∃V,(mg c=some V\/(mg c=none/\mb c=some V))/\ ∀k C,mg k=some (.ref C)->(k∈yes->fq B C V true)/\(k∈no->fq B C V false)
 askT:∀cs yes no,tb.sbt.lookup cs=some (yes,no)-> ∃Vs,gj mg mb cs Vs/\ ∀k C,mg k=some (.ref C)->(k∈yes->dO B C Vs true)/\(k∈no->dO B C Vs false)
section
variable {y:Lay} {bv bv':List Nat} {own af:Addr->Option Nat} {Z Z':Addr->Prop} {s s':Shared} {fr b4:Fm}
inductive jj (y:Lay) (bv:List Nat) (own:Addr->Option Nat) (Z:Addr->Prop) (s:Shared) (out:Except Str Rv×Fm) (v:Value) (s':Shared):Prop
 |mk (r:Rv) (af:Addr->Option Nat) (Z':Addr->Prop):out.1 = .ok r->Inv y af Z' s'.heap out.2->Step y bv own Z s af Z' s'->fB y af Z' s.heap s'.heap r v->jj y bv own Z s out v s'
set_option tactic.hygienic true in
theorem fB.dat {r:Rv} {v:Value} {d:D} (I:Inv y own Z h fr) (q:fB y own Z h₀ h r v) (e:bO fr r=some d):cv h Z v d:=by
 cases r with
 |fz d'=>obtain rfl:=aF e;exact .inl q
 |own d'=>obtain rfl:=aF e;obtain⟨a,q⟩:=q;refine Er q.1 ?_;have w:=q.2.2.2.2.2;exact .inr ⟨a,rfl,w⟩
 |pl p=>
  cases p with
  |var i=>
   obtain⟨l,hl,hr⟩:=q;simp only[bO,w6]at e
   split at e
   .rename_i d' hs
    cases e;obtain⟨l',v',df,Bo,R⟩:=I.at' i _ hs (by intro n;cases n);rw[hl]at df;obtain rfl:=aF df;refine Er (hr.det Bo) ?_;exact .inl R
   .rename_i d' hs
    cases e;obtain⟨l',v',df,Bo,a,rfl,oa,w⟩:=I.at' i _ hs (by intro n;cases n);rw[hl]at df;obtain rfl:=aF df;refine Er (hr.det Bo) ?_;exact .inr ⟨a,rfl,w⟩
   .exact ah e
inductive C7 (y:Lay) (bv:List Nat) (own:Addr->Option Nat) (Z:Addr->Prop) (s:Shared) (af:Addr->Option Nat) (s':Shared) (fr:Fm) (v:Value) (d:D):Prop
 |mk (m4:Addr->Prop):Inv y af m4 s'.heap fr->Step y bv own Z s af m4 s'->bS s'.heap m4 v d->C7 y bv own Z s af s' fr v d
theorem fB.freeze {r:Rv} {v:Value} {d:D} (I:Inv y af Z' s'.heap fr) (S:Step y bv own Z s af Z' s') (q:fB y af Z' s.heap s'.heap r v) (e:bU r=some d):
  C7 y bv own Z s af s' fr v d:=by
 cases r with
 |fz d'=>refine Er (aF e).symm ?_;exact⟨Z',I,S,q⟩
 |own d'=>
  refine Er (aF e).symm ?_;obtain⟨a,q⟩:=q;refine Er q.1 ?_;refine aQ q.2.2.2.2.2.live λo ho=>?_
  exact⟨_,I.addZ q.2.2.1 q.2.2.2.1 ho,S.addZ q.2.1,q.2.2.2.2.2.rep (λac z=>.inl z) (.inr rfl)⟩
 |pl p=>exact ah e
theorem Op.post {aA:Shared} {aI:Addr->Prop} {aj:Addr->Option Nat} {r:Rv} {v:Value} {nE:Shared} (I:Inv y aj aI aA.heap fr) (S:Step y bv own Z s aj aI aA) (p:Op aI aA r v nE):jj y bv own Z s (.ok r,fr) v nE:=by
 obtain⟨h',tk,rfl,k,q⟩:=p;cases q with
 |old R=>exact⟨_,aj,aI,rfl,I.grow k,S.trans (.grow k),R⟩
 |new e e' R=>exact⟨_,aj,_,rfl,I.growZ k e e',S.trans (.growZ k e),R⟩
 |@own a d e w=>
  exact⟨_,aj,aI,rfl,I.grow k,S.trans (.grow k),a,rfl,S.old a e,(I.fresh e).1,(I.fresh e).2.1,(I.fresh e).2.2,w⟩
theorem jj.val {d:D} {v:Value} (I:Inv y af Z' s'.heap fr) (S:Step y bv own Z s af Z' s') (R:bS s'.heap Z' v d):jj y bv own Z s (.ok (.fz d),fr) v s':=⟨_,af,Z',rfl,I,S,R⟩
theorem jw {r:Rv} {d:D} (e:bU r=some d):gA r=[]:=by cases r<;>first|rfl|exact ah e
end
section
variable {A:Around} {E:Value->Shared->Prop} {env:Env} {glob:List D} {sc:Sc} {y:Lay} {c:dj} {n:Nat}
 {bv:List Nat} {own ae:Addr->Option Nat} {Z aw:Addr->Prop} {s s₁:Shared} {fr av:Fm}
theorem dn {x:Str} {l:Loc} {v:Value} {Q:Value->Shared->Prop} (en:aS A sc env y) (hv:sc.isV x i) (hl:y.loc i=some l) (hr:im s.heap l v) (h:Q v s):
  wpAny (model prog w) A (eval (.Name x pos) env) Q E s:=by
 refine wpAny_Name ?_ hv.2
 rcases en.var x i hv.1 with⟨hk,e⟩|⟨hk|⟨hk,hc⟩,c,qg,e⟩
 .rw[hl]at e;obtain rfl:=aF e
  obtain⟨m,hr⟩:=hr;exact wpAny_loadName_local en.kind hk hr.1 hr.2 h
 .have e:=hl▸e;obtain rfl:=aF e
  exact wpAny_loadName_cell en.kind hk qg hr h
 .rw[hl]at e;obtain rfl:=aF e
  exact wpAny_loadName_free en.kind hk qg hr h hc
theorem hH {x:Str} {v:Value} {Q:Value->Shared->Prop} (gd:Gd glob) (en:aS A sc env y) (I:Inv y own Z s.heap fr) (hx:sc.isG x) (hv:mg x=some v) (h:Q v s):
  wpAny (model prog w) A (eval (.Name x pos) env) Q E s:=
 Calls.Name_function_global en.kind (en.gl x hx.1) (Calls.loadGlobal_global (by refine Er en.glob ?_;exact gd.g.keeps I.base) hv h) hx.2
theorem dq {x:Str} {pos:Pos} {v:Value} {Q:Value→Shared→Prop} (gd:Gd glob) (en:aS A sc env y) (I:Inv y own Z s.heap fr) (hx:sc.isG x) (hm:x∈ig) (hn:x≠"__name__") (hv:bootBuiltins x = some v) (h:Q v s) :
  wpAny (model prog w) A (eval (.Name x pos) env) Q E s:=
 Calls.Name_function_global en.kind (en.gl x hx.1) (Calls.loadGlobal_builtin (by refine Er en.glob ?_;exact gd.g.keeps I.base) (gd.bi x hm) (by refine Er en.blt ?_;exact gd.b.keeps I.base) ((gd.bt x hn).trans hv) h) hx.2
end
noncomputable def mX:Bi->Value
 | .len=>.builtin "len" | .isi _=>.builtin "isinstance" | .all=>.builtin "all" | .int=>.type "int" | .str=>.type "str" | .tuple=>.type "tuple" | .list=>.type "list"
 | _=>.builtin "len"
theorem dN (b:Bi):dB b∈ig:=by cases b<;>(dsimp only[dB];decide)
theorem eP (b:Bi) :dB b≠("__name__" :Str):=by cases b <;> (dsimp only [dB]; decide)
theorem hY (b:Bi):bootBuiltins (dB b)=some (mX b):=by
 cases b<;>(dsimp only[dB,mX];boot_fast)
theorem B9 (t:Ty):bootBuiltins (cy t)=some (.type (cy t)):=by
 cases t<;>(dsimp only[cy];boot_fast)
theorem boot_set:bootBuiltins "set" = some (.type "set"):=by boot_fast
theorem boot_range:bootBuiltins "range" = some (.type "range"):=by boot_fast
structure Gh (F:Addr->Prop) (own:Addr->Option Nat) (Z:Addr->Prop) (h:Heap):Prop where
 base:∀a o,B.get? a=some o->h.get? a=some o
 zb:∀a o,B.get? a=some o->Z a
 zo:∀a,Z a->own a=none
 zF:∀a,Z a-> ¬F a
 oF:∀a,own a≠none-> ¬F a
 zlv:∀a,Z a-> ∃o,h.get? a=some o
 olv:∀a,own a≠none-> ∃o,h.get? a=some o
 flv:∀a,F a-> ∃o,h.get? a=some o/\NR o
structure C6 (F:Addr->Prop) (own:Addr->Option Nat) (Z:Addr->Prop) (s:Shared) (af:Addr->Option Nat) (Z':Addr->Prop) (s':Shared):Prop where
 sh:∃h' tk,s'={s with heap:=h',toks:=tk}
 ext:Cg (λa=>own a≠none) F s.heap s'.heap
 zm:∀a,Z a->Z' a
 zn:∀a,Z' a->Z a\/own a≠none\/s.heap.get? a=none
 on:∀a i,af a=some i->own a=some i\/s.heap.get? a=none
def uk (own:Addr->Option Nat) (Z:Addr->Prop) (h:Heap) (args:List Slot) (vs:List Value):Prop:=
 args.length=vs.length/\ ∀(k:Nat) (sl:Slot) (v:Value),args[k]? = some sl->vs[k]? = some v->sl≠ .no/\eD h Z (λa=>own a=some k) sl v
def JG (F:Addr->Prop) (own:Addr->Option Nat) (Z:Addr->Prop) (h₀ h:Heap):Rv->Value->Prop
 |.fz d,v=>bS h Z v d
 |.own d,v=> ∃a,v = .ref a/\h₀.get? a=none/\own a=none/\ ¬F a/\ ¬Z a/\cq h Z a d
 |.pl _,_=>False
def fS (own:Addr->Option Nat) (Z:Addr->Prop) (h:Heap):Nat->List Slot->List Value->List Slot->Prop
 |k,sl::ss,v::vs,bW=>if sl.lent=true then ∃o os,bW=o::os/\(o≠ .no->eD h Z (λa=>own a=some k) o v)/\fS own Z h (k+1) ss vs os else fS own Z h (k+1) ss vs bW
 |_,_,_,_=>True
inductive iF (h:Heap) (P:Addr->Prop) (a:Addr) (nm:Str):Prop
 |mk (pa:P a) (oe:Obj) (vs:Array Value) (C:Addr) (m:Str->Option Value):h.get? a=some oe->(oe.cls = .ref C/\oe.dict=none)->oe.data = .fields vs->B.Ns mainGlobals m->m nm=some (.ref C)->
  (vs[1]? = some .none\/ ∃T oT ts,vs[1]? = some (.ref T)/\T≠a/\h.get? T=some oT/\oT.data = .fields ts/\3<ts.size/\P T)->iF h P a nm
theorem iF.mono {P P':Addr->Prop} (x:iF h P a nm) (k:∀b o,h.get? b=some o->P b->P' b):iF h P' a nm:=by
 refine aM λG g=>?_
 obtain⟨p,oe,vs,C,m,he,hc,hd,hn,hm,ht⟩:=x
 rcases ht with q|⟨T,oT,ts,h1,h2,h3,h4,h5,h6⟩
 .refine g ?_
  exact⟨k a _ he p,oe,vs,C,m,he,hc,hd,hn,hm,.inl q⟩
 .refine g ?_
  exact⟨k a _ he p,oe,vs,C,m,he,hc,hd,hn,hm,.inr ⟨T,oT,ts,h1,h2,h3,h4,h5,k T _ h3 h6⟩⟩
inductive jk (F:Addr->Prop) (own:Addr->Option Nat) (Z:Addr->Prop) (s:Shared) (args:List Slot) (vs:List Value) (pg:Except Str Rv) (bW:List Slot) (r:Result) (s':Shared):Prop
 |mk (af:Addr->Option Nat) (Z':Addr->Prop):Gh F af Z' s'.heap->C6 F own Z s af Z' s'->fS af Z' s'.heap 0 args vs bW->
  ((∃rv v,pg = .ok rv/\r = .ok (.ret v)/\JG F af Z' s.heap s'.heap rv v)\/
   ∃nm a,pg = .error nm/\r = .error (.ref a)/\iF s'.heap (λb=>s.heap.get? b=none/\af b=none/\ ¬F b/\ ¬Z' b) a nm)->jk F own Z s args vs pg bW r s'
def qV (n:Nat) (call:Bool->Nat->List Slot->Option (Except Str Rv×List Slot)):Prop:=
 ∀hd f args pg bW,call hd f args=some (pg,bW)-> ∀(d:DefRec),tb.fn[f]? = some d-> ∀fa,mg d.name=some (.ref fa)-> ∀(A:Around) (F:Addr->Prop) (own:Addr->Option Nat) (Z:Addr->Prop) (s:Shared) (vs:List Value),
  A.depth+n<=999->A.units+4*n<=4000->(hd=false->A.handled=none)->FX F A->Gh F own Z s.heap->uk own Z s.heap args vs->
  codeAny (model prog w) A (.call (.ref fa) ⟨vs,[]⟩) (jk F own Z s args vs pg bW) s
noncomputable def eA (rs:List Rv) (i:Nat):Nat->Option Nat
 |k=>match rs with
  |[]=>none
  |.pl (.var j)::rs=>if j=i then some k else eA rs i (k+1)
  |_::rs=>eA rs i (k+1)
set_option tactic.hygienic true in
theorem mB:∀ {rs:List Rv} {i k j:Nat},eA rs i k=some j->k<=j/\rs[j-k]? = some (.pl (.var i)):=by
 intro rs i k j h
 induction rs generalizing i k j with
 |nil=>simp[eA]at h
 |cons r rs ih=>
  have tail:eA rs i (k+1)=some j->k<=j/\(r::rs)[j-k]? = some (.pl (.var i)):=λh=>by
   obtain⟨h1,h2⟩:=ih h;refine⟨by exact(L1 [k,j] .x .y (.p 1 .x) .y rfl h1),?_⟩;obtain⟨m,rfl⟩:∃m,j=k+1+m:=⟨j-(k+1),by exact(Le [j,k,j-(k+(1:Nat))] (.e .x (.a (.p 1 .y) .z)) [Gq (.a .z (.p 1 .y)) .x] rfl (Za (n:=j) (m:=k+(1:Nat)) h1))⟩
   refine Er (show k+1+m-k=m+1 from by exact(Le [k+(1:Nat)+m-k,m,k] (.e .x (.p 1 .y)) [Gp (.a .x .z) (.a (.p 1 .z) .y)] rfl (Za (n:=k+(1:Nat)+m) (m:=k) (L1 [k,m] .x (.a (.p 1 .x) .y) (.p 1 .x) (.a (.p 1 .x) .y) rfl h1)))) (Er (List.getElem?_cons_succ) ?_);rw[show k+1+m-(k+1)=m from by exact(Le [k+(1:Nat)+m-(k+(1:Nat)),m,k] (.e .x .y) [Gp (.a .x (.p 1 .z)) (.a (.p 1 .z) .y)] rfl (Za (n:=k+(1:Nat)+m) (m:=k+(1:Nat)) h1))]at h2;exact h2
  unfold eA at h
  split at h
  .rename_i e;cases e
  .rename_i j' KB e
   cases e
   split at h
   .rename_i q;refine Er (aF h) ?_;subst q;exact⟨Zg _,by simp⟩
   .exact tail h
  .rename_i e;cases e;exact tail h
theorem u7:∀ {rs:List Rv} {j i:Nat},rs[j]? = some (.pl (.var i))->i∈c8 rs:=by
 intro rs j i h
 induction rs generalizing j i with
 |nil=>simp at h
 |cons r rs ih=>
  cases j with
  |zero=>simp at h;subst h;simp[c8]
  |succ j=>
    have:=ih h;cases r with
    |pl p=>cases p<;>simp[c8,this]
    |fz _=>simpa [c8] using this
    |own _=>simpa [c8] using this
theorem pk:∀ {rs:List Rv} {j i k:Nat},(c8 rs).Nodup->rs[j]? = some (.pl (.var i))->eA rs i k=some (k+j):=by
 intro rs j i k nd h
 induction rs generalizing j i k with
 |nil=>simp at h
 |cons r rs ih=>
  cases j with
  |zero=>simp at h;subst h;simp[eA]
  |succ j=>
    have h':rs[j]? = some (.pl (.var i)):=by exact h
    have e:k+(j+1)=k+1+j:=by exact(Zi (L0 [k,j] (.a .x (.p 1 .y)) (.a (.p 1 .x) .y) rfl) (L0 [k,j] (.a (.p 1 .x) .y) (.a .x (.p 1 .y)) rfl))
    unfold eA;cases r with
    |pl p=>
     cases p with
     |var j'=>
      simp only[c8,nodup_cons]at nd;dsimp only;exact Er (YW (λq:j'=i=>nd.1 (by refine Er q ?_;exact u7 h'))) (Er e (ih nd.2 h'))
    |fz _=>exact Er e (ih (by simpa [c8] using nd) h')
    |own _=>exact Er e (ih (by simpa [c8] using nd) h')
noncomputable def frz:Rv->Rv
 |.own d=>.fz d
 |r=>r
def eE (y:Lay) (own:Addr->Option Nat) (Z:Addr->Prop) (h₀ h:Heap):List Rv->List Value->Prop
 |[],[]=>True
 |r::rs,v::vs=>fB y own Z h₀ h (frz r) v/\eE y own Z h₀ h rs vs
 |_,_=>False
theorem eE.one {y:Lay} {own:Addr->Option Nat} {Z:Addr->Prop} {h₀ h:Heap} {r:Rv} {vs:List Value} (R:eE y own Z h₀ h [r] vs):∃v,vs=[v]/\fB y own Z h₀ h (frz r) v:=by
 cases vs with
 |nil=>exact R.elim
 |cons v vs=>
  cases vs with
  |nil=>exact⟨v,rfl,R.1⟩
  |cons _ _=>exact R.2.elim
theorem eE.length {y:Lay} {own:Addr->Option Nat} :∀ {rs:List Rv} {vs:List Value},eE y own Z h₀ h rs vs->rs.length=vs.length:=by
 intro rs vs h
 induction rs generalizing vs with
 |nil=>
  cases vs with
  |nil=>exact rfl
  |cons x2 x3=>exact h.elim
 |cons x1 rs ih=>
  cases vs with
  |nil=>exact h.elim
  |cons x4 vs=>exact Er ZD (Er ZD (Er (ih h.2) rfl))
theorem eE.get {y:Lay} {own:Addr->Option Nat} :∀ {rs:List Rv} {vs:List Value} {k:Nat} {r:Rv} {v:Value},eE y own Z h₀ h rs vs->rs[k]? = some r->vs[k]? = some v->fB y own Z h₀ h (frz r) v:=by
 intro rs vs k x1 x2 h e e'
 induction rs generalizing vs k x1 x2 e' with
 |nil=>
  cases vs with
  |nil=>simp at e
  |cons x3 x4=>exact h.elim
 |cons r rs ih=>
  cases vs with
  |nil=>exact h.elim
  |cons v vs=>
   cases k with
   |zero=>simp at e e';subst e;subst e';exact h.1
   |succ k=>exact ih h.2 e e'
noncomputable def ii (fr:Fm):Rv->Option Slot
 |.fz d=>some (Slot.fz d)
 |.own d=>some (.fz d)
 |.pl (.var i)=>(match fr[i]? with
  |some (.fz d)=>some (.fz d)
  |some (.own d)=>some (.own d)
  |some (.exc c)=>some (.exc c)
  |_=>none)
set_option tactic.hygienic true in
theorem mh {fr:Fm} {r:Rv} {rs:List Rv} {ss:List Slot} (h:cC fr (r::rs)=some ss):∃sl GT,ss=sl::GT/\ii fr r=some sl/\cC fr rs=some GT:=by
 unfold cC at h
 split at h
 .rename_i sl GT h1 h2
  refine Er (aF h).symm ?_;refine⟨sl,GT,rfl,?_,h2⟩;cases r with
  |fz d=>exact h1
  |own d=>exact h1
  |pl p=>cases p<;>exact h1
 .exact ah h
theorem jf {fr:Fm}:∀ {rs:List Rv} {ss:List Slot},cC fr rs=some ss->rs.length=ss.length/\ ∀(k:Nat) (r:Rv),rs[k]? = some r-> ∃sl,ss[k]? = some sl/\ii fr r=some sl:=by
 intro rs ss h
 induction rs generalizing ss with
 |nil=>simp only[cC]at h;obtain rfl:=aF h;exact⟨rfl,λk r e=>by simp at e⟩
 |cons r rs ih=>
  refine fW (mh h) λsl GT q=>?_;refine Er q.1 ?_
  have Q:=ih q.2.2;refine⟨by simp[Q.1],λk r' e=>?_⟩;cases k with
  |zero=>simp at e;subst e;exact⟨sl,rfl,q.2.1⟩
  |succ k=>simpa using Q.2 k r' e
set_option tactic.hygienic true in
theorem oA {fr:Fm} {r:Rv} {sl:Slot} (h:ii fr r=some sl) (hl:sl.lent=true):∃i,r = .pl (.var i)/\fr[i]? = some sl:=by
 unfold ii at h
 split at h<;>first
  |(obtain rfl:=aF h;cases hl;done)
  |(rename_i i;refine⟨i,rfl,?_⟩;split at h<;>first|(exact ah h;cases hl;done)|(refine Er (aF h).symm ?_;assumption)|(exact ah h;done))
  |(exact ah h;done)
noncomputable def gq (own:Addr->Option Nat) (rs:List Rv) (a:Addr):Option Nat:=(own a).bind λi=>eA rs i 0
noncomputable def rr (rs:List Rv) (k:Nat):Option Nat:=match rs[k]? with
 |some (.pl (.var i))=>some i
 |_=>none
noncomputable def io (own fx:Addr->Option Nat) (rs:List Rv) (a:Addr):Option Nat:=match fx a with
 |some k=>rr rs k
 |none=>match own a with
  |some i=>(match eA rs i 0 with
   |some _=>none
   |none=>some i)
  |none=>none
theorem uV {own:Addr->Option Nat} {rs:List Rv} {k:Nat} (h:gq own rs a=some k):∃i,own a=some i/\eA rs i 0=some k:=Option.bind_eq_some_iff.mp h
theorem gZ {own:Addr->Option Nat} {rs:List Rv} (h:gq own rs a≠none):own a≠none:=λe=>h (by unfold gq;refine Er e ?_;rfl)
section
variable {y:Lay} {own:Addr->Option Nat} {Z:Addr->Prop} {s s':Shared} {fr:Fm} {rs:List Rv} {ss bW:List Slot} {vs:List Value}
theorem B5 (I:Inv y own Z s.heap fr) (rs:List Rv):Gh (λa=>y.F a\/a=y.L) (gq own rs) Z s.heap where
 base:=I.base
 zb:=I.zb
 zo:=λa z=>by unfold gq;refine Er (I.zo a z) ?_;rfl
 zF:=λa z f=>f.elim (I.zF a z) λe=>I.zL (e▸z)
 oF:=λa h f=>f.elim (I.oF a (gZ h)) λe=>gZ h (e▸I.oL)
 zlv:=I.zlv
 olv:=λa h=>I.olv a (gZ h)
 flv:=λa f=>f.elim (I.flv a) λe=>let ⟨m,o,_,_,h,hd,_⟩:=I.nsL;⟨o,e▸h,λvs q=>by have q:=hd▸q;cases q⟩
set_option tactic.hygienic true in
theorem sJ (I:Inv y own Z s.heap fr) (hr:eE y own Z h₀ s.heap rs vs) (hs:cC fr rs=some ss) (nd:(c8 rs).Nodup):uk (gq own rs) Z s.heap ss vs:=by
 obtain⟨bH,n9⟩:=jf hs;refine⟨by exact Er bH.symm (Er hr.length rfl),λk sl v e e'=>?_⟩;have hk:k<rs.length:=by exact Er bH ((List.getElem?_eq_some_iff.mp e).1)
 obtain⟨wN,e2,h2⟩:=n9 k _ (ZG hk);rw[e]at e2;refine Er (aF e2) ?_;have q:=hr.get (ZG hk) e';generalize Og:rs[k]=r at *;have La:rs[k]? = some r:=by exact Er (ZG hk) (Er Og rfl)
 cases r with
 |fz d=>obtain rfl:=aF h2;exact⟨(λn=>by cases n),q⟩
 |own d=>obtain rfl:=aF h2;exact⟨(λn=>by cases n),q⟩
 |pl p=>
  cases p with
  |var i=>
   obtain⟨l,q⟩:=q;have hl:=q.1;have hv:=q.2;have key:∀sl,fr[i]? = some sl->sl≠ .no->eD s.heap Z (λa=>own a=some i) sl v:=λsl e n=>by
    obtain⟨l',v',df,Ip,q⟩:=I.at' i sl e n;rw[hl]at df;obtain rfl:=aF df;exact Er (hv.det Ip) q
   have mo:∀a,own a=some i->gq own rs a=some k:=λa e=>by
    unfold gq;refine Er e ?_;show eA rs i 0=_;refine Er (pk nd La) ?_;rw[Nat.zero_add]
   simp only[ii]at h2
   split at h2
   .rename_i d e9;exact Er (aF h2).symm (⟨(λn=>by cases n),key _ e9 (by intro n;cases n)⟩)
   .rename_i d e9;obtain rfl:=aF h2;exact⟨(λn=>by cases n),(key _ e9 (by intro n;cases n)).mono (λac az cL e=>e) (λac z=>z) mo λac az cL e=>e⟩
   .rename_i e9;obtain rfl:=aF h2;exact⟨(λn=>by cases n),(key _ e9 (by intro n;cases n)).mono (λac az cL e=>e) (λac z=>z) mo λac az cL e=>e⟩
   .exact ah h2
theorem f4 (hn:h.Ns a m) (k:∀o,h.get? a=some o-> ∃sl,h'.get? a=some {o with slots:=sl}):h'.Ns a m:=by
 refine jm hn λo es ep hn=>?_
 refine aQ (k o hn.1) λsl e=>?_
 exact⟨_,es,ep,e,hn.2⟩
theorem qJ:∀ {rs:List Rv} {ss bW:List Slot} {vs:List Value} {fr:Fm} {k j:Nat} {sl:Slot},fS af Z' h k ss vs bW->rs.length=ss.length->ss.length=vs.length->
  (∀(m:Nat) (r:Rv) (sl:Slot),rs[m]? = some r->ss[m]? = some sl->sl.lent=true-> ∃i,r = .pl (.var i))->(dA fr rs ss bW)[j]? = some sl->
  (∃(m:Nat) (s0:Slot) (v:Value),rs[m]? = some (.pl (.var j))/\ss[m]? = some s0/\s0.lent=true/\vs[m]? = some v/\(sl≠ .no->eD h Z' (λa=>af a=some (k+m)) sl v))\/(fr[j]? = some sl/\((c8 rs).Nodup-> ∀(m:Nat) (s0:Slot),rs[m]? = some (.pl (.var j))->ss[m]? = some s0->s0.lent=false)):=by
 intro rs ss bW vs fr k j sl O h h9 hl e
 induction rs generalizing ss bW vs fr k j sl O h9 with
 |nil=>
   refine .inr ⟨?_,λac m s0 e=>by simp at e⟩
   simpa [dA] using e
 |cons r rs ih=>
  cases ss with
  |nil=>simp at h
  |cons s0 ss=>
   cases vs with
   |nil=>simp at h9
   |cons v vs=>
     have Nn:rs.length=ss.length:=by simpa using h
     have Nk:ss.length=vs.length:=by simpa using h9
     have df:∀(m:Nat) (r:Rv) (sl:Slot),rs[m]? = some r->ss[m]? = some sl->sl.lent=true-> ∃i,r = .pl (.var i):=λm r sl e1 e2=>hl (m+1) r sl e1 e2
     unfold fS at O;unfold dA at e
     by_cases q:s0.lent=true
     .rw[YV q]at O
      obtain⟨o,os,O⟩:=O;obtain rfl:=O.1;obtain⟨i,rfl⟩:=hl 0 r s0 rfl rfl q;rw[YV q]at e;dsimp only at e
      rcases ih O.2.2 Nn Nk df e with⟨m,s1,v',a1,a2,a3,a4,a5⟩|⟨a1,a2⟩
      .exact .inl ⟨m+1,s1,v',by exact a1,by exact a2,a3,by exact a4,λn=>by have:=a5 n;rwa [show k+1+m=k+(m+1) from by exact(Zi (L0 [k,m] (.a (.p 1 .x) .y) (.a .x (.p 1 .y)) rfl) (L0 [k,m] (.a .x (.p 1 .y)) (.a (.p 1 .x) .y) rfl))]at this⟩
      .rcases eG a1 with⟨rfl,rfl⟩|⟨ip,a1⟩
       .exact .inl ⟨0,s0,v,rfl,rfl,q,rfl,O.2.1⟩
       .refine .inr ⟨a1,λnd m s1 e1 e2=>?_⟩
        refine aM λG2 g2=>?_
        cases m with
        |zero=>refine g2 ?_;cases Y5 (show some (Rv.pl (.var _))=some (Rv.pl (.var _)) from e1);exact absurd rfl ip
        |succ m=>refine g2 ?_;exact a2 (by simp only[c8,nodup_cons]at nd;exact nd.2) m s1 e1 e2
     .rw[YW q]at O e
      rcases ih O Nn Nk df e with⟨m,s1,v',a1,a2,a3,a4,a5⟩|⟨a1,a2⟩
      .exact .inl ⟨m+1,s1,v',by exact a1,by exact a2,a3,by exact a4,λn=>by have:=a5 n;rwa [show k+1+m=k+(m+1) from by exact(Zi (L0 [k,m] (.a (.p 1 .x) .y) (.a .x (.p 1 .y)) rfl) (L0 [k,m] (.a .x (.p 1 .y)) (.a (.p 1 .x) .y) rfl))]at this⟩
      .refine .inr ⟨a1,λnd m s1 e1 e2=>?_⟩
       refine aM λG3 g3=>?_
       cases m with
       |zero=>refine g3 ?_;simp at e2;subst e2;simpa using q
       |succ m=>
        refine g3 ?_;refine a2 ?_ m s1 (by exact e1) e2;refine aM λG g=>?_
        cases r with
        |pl p=>
         refine g ?_;refine aM λG1 g1=>?_
         cases p with
         |var i=>refine g1 ?_;simp only[c8,nodup_cons]at nd;exact nd.2
        |fz _=>refine g ?_;simpa [c8] using nd
        |own _=>refine g ?_;simpa [c8] using nd
set_option tactic.hygienic true in
theorem jx {own fx:Addr->Option Nat} {rs:List Rv} (h:io own fx rs a=some i):(∃k,fx a=some k/\rs[k]? = some (.pl (.var i)))\/(fx a=none/\own a=some i/\eA rs i 0=none):=by
 unfold io at h
 split at h
 .rename_i k hk
  unfold rr at h
  split at h
  .rename_i j hj;refine Er (aF h).symm ?_;exact .inl ⟨k,hk,hj⟩
  .exact ah h
 .rename_i hk
  split at h
  .rename_i j hj
   split at h
   .exact ah h
   .rename_i hp;exact Er (aF h).symm (.inr ⟨hk,hj,hp⟩)
  .exact ah h
theorem mT {pg:Except Str Rv} {r:Result} (I:Inv y own Z s.heap fr) (hr:eE y own Z h₀ s.heap rs vs) (hs:cC fr rs=some ss) (nd:(c8 rs).Nodup)
  (P:jk (λa=>y.F a\/a=y.L) (gq own rs) Z s ss vs pg bW r s'):
  ∃af Z',Inv y af Z' s'.heap (dA fr rs ss bW)/\Step y [] own Z s af Z' s'/\((∃rv v,pg = .ok rv/\r = .ok (.ret v)/\fB y af Z' s.heap s'.heap rv v)\/
   ∃nm a,pg = .error nm/\r = .error (.ref a)/\iF s'.heap (λb=>s.heap.get? b=none/\ ¬y.wr af b/\ ¬y.F b/\ ¬Z' b) a nm):=by
 obtain⟨fx,Z',G,S,O,R⟩:=P;have u:=jf hs;have bH:=u.1;have n9:=u.2;have Iw:ss.length=vs.length:=by exact Er bH.symm (Er hr.length rfl)
 -- GD stays
 have nwr:∀a,own a=none-> ¬((λa=>gq own rs a≠none) a):=λa e q=>gZ q e
 have keep:∀a o,s.heap.get? a=some o->own a=none-> ¬y.F a->a≠y.L->s'.heap.get? a=some o:=λa o e n f l=>S.ext.keep a o e (nwr a n) λq=>q.elim f l
 have H3:∀a o,s.heap.get? a=some o->gq own rs a=none-> ¬y.F a->a≠y.L->s'.heap.get? a=some o:=λa o e n f l=>S.ext.keep a o e (λq=>q n) λq=>q.elim f l
 have keepZ:∀a o,Z a->s.heap.get? a=some o->s'.heap.get? a=some o:=λa o z e=>keep a o e (I.zo a z) (I.zF a z) λq=>I.zL (q▸z)
 have Kv:∀o,s.heap.get? y.L=some o-> ∃sl,s'.heap.get? y.L=some {o with slots:=sl}:=λo e=>S.ext.fram y.L o (.inr rfl) e
 have KD:∀i l v,y.loc i=some l->im s.heap l v->im s'.heap l v:=λi l v hl hv=>by
  by_cases q:l.addr=y.L
  .cases l with
   |dict a x=>
    obtain⟨m,hv⟩:=hv;subst q;exact⟨m,f4 hv.1 Kv,hv.2⟩
   |cell a=>exact absurd q (I.wf.cl i a hl)
  .exact hv.keeps λo e=>keep _ o e (I.ol i l hl) (I.wf.nf i l hl) q
 have KH:∀i l,y.loc i=some l->rH s.heap l->rH s'.heap l:=λi l hl hv=>by
  by_cases q:l.addr=y.L
  .cases l with
   |dict a x=>
    obtain⟨m,hn⟩:=hv;subst q;exact⟨m,f4 hn Kv⟩
   |cell a=>exact absurd q (I.wf.cl i a hl)
  .exact hv.keeps λo e=>keep _ o e (I.ol i l hl) (I.wf.nf i l hl) q
 have nN:∀a o,s.heap.get? a=some o->gq own rs a=none->fx a=none:=λa o e n=>by
  cases q:fx a with
  |none=>rfl
  |some k=>
   rcases S.on a k q with q|q
   .rw[n]at q;exact ah q
   .have q:=e▸q;cases q
 have oB:∀a i,io own fx rs a=some i->own a=some i\/s.heap.get? a=none:=λa i q=>by
  rcases jx q with⟨k,hk,hj⟩|⟨_,q,_⟩
  .rcases S.on a k hk with q|q
   .refine aM λG3 g2=>?_
    refine aQ (uV q) λi' U=>?_
    have:=pk (k:=0) nd hj;rw[Nat.zero_add]at this;obtain⟨_,h2⟩:=mB U.2;rw[Y9]at h2;have h2:=hj▸h2;cases h2;refine g2 ?_;exact .inl U.1
   .exact .inr q
  .exact .inl q
 have Pa:∀a,io own fx rs a≠none->own a≠none\/s.heap.get? a=none:=λa q=>by
  cases e:io own fx rs a with
  |none=>exact absurd e q
  |some i=>exact(oB a i e).imp (λh=>by refine Er h ?_;exact λn=>by cases n) id
 have KI:∀a,io own fx rs a≠none->fx a≠none\/(gq own rs a=none/\own a≠none):=λa q=>by
  cases e:io own fx rs a with
  |none=>exact absurd e q
  |some i=>
   refine aM λG2 g1=>?_
   rcases jx e with⟨k,hk,_⟩|⟨_,h,hp⟩
   .refine g1 ?_
    exact .inl (by refine Er hk ?_;exact λn=>by cases n)
   .refine g1 ?_
    exact .inr ⟨by unfold gq;refine Er h ?_;exact hp,by refine Er h ?_;exact λn=>by cases n⟩
 have zn:∀a,Z' a->Z a\/own a≠none\/s.heap.get? a=none:=λa z=>(S.zn a z).imp id λq=>q.imp gZ id
 have O8:=I.wf;have N1:Inv y (io own fx rs) Z' s'.heap (dA fr rs ss bW):=by
  refine⟨I.wf,G.base,G.zb,λa z=>?_,λi l hl z=>?_,λi l hl=>?_,λz=>?_,?_,λa z f=>G.zF a z (.inl f),λa q f=>?_,G.zlv,λa q=>?_,λa f=>G.flv a (.inl f),λi l hl=>KH i l hl (I.ok i l hl),?_,λj sl e n=>?_⟩
  .-- zo
   cases q:io own fx rs a with
   |none=>rfl
   |some i=>
    rcases jx q with⟨k,hk,_⟩|⟨hN,ho,hp⟩
    .rw[G.zo a z]at hk;exact ah hk
    .rcases S.zn a z with z|z|z
     .rw[I.zo a z]at ho;exact ah ho
     .exact absurd (by unfold gq;refine Er ho ?_;exact hp) z
     .obtain⟨o,e⟩:=I.olv a (by refine Er ho ?_;exact λn=>by cases n);rw[z]at e;exact ah e
  .-- zl
   obtain⟨o,e⟩:=(I.ok i l hl).live
   rcases S.zn _ z with z|z|z
   .exact I.zl i l hl z
   .exact gZ z (I.ol i l hl)
   .rw[z]at e;exact ah e
  .-- ol
   cases q:io own fx rs l.addr with
   |none=>rfl
   |some k=>
    obtain⟨o,e⟩:=(I.ok i l hl).live
    rcases oB _ _ q with q|q
    .rw[I.ol i l hl]at q;exact ah q
    .rw[q]at e;exact ah e
  .exact G.zF _ z (.inr rfl)
  .cases q:io own fx rs y.L with
   |none=>rfl
   |some k=>
    refine oI I.nsL λm o ac az Q=>?_;have e:=Q.1
    rcases oB _ _ q with q|q
    .rw[I.oL]at q;exact ah q
    .rw[q]at e;exact ah e
  .rcases KI a q with q|⟨q,q'⟩
   .exact G.oF a q (.inl f)
   .exact I.oF a q' f
  .rcases KI a q with q|⟨q,q'⟩
   .exact G.olv a q
   .obtain⟨o,e⟩:=I.olv a q';exact S.ext.live a o e
  .obtain⟨m,hn⟩:=I.nsL;exact⟨m,f4 hn Kv⟩
  .-- the slots
   rcases qJ O bH Iw (λm r sl e1 e2 hl=>by
    obtain⟨wN,e3,h3⟩:=n9 m r e1;rw[e2]at e3;obtain rfl:=aF e3;obtain⟨i,J⟩:=oA h3 hl;exact⟨i,J.1⟩) e with⟨m,s0,v',a1,a2,a3,a4,a5⟩|⟨a1,a2⟩
   .have q:=hr.get a1 a4
    refine aQ q λl q=>?_
    refine⟨l,v',q.1,KD j l v' q.1 q.2,(a5 n).mono (λac az cL e=>e) (λac z=>z) (λb hb=>?_) λac az cL e=>e⟩;rw[Nat.zero_add]at hb;unfold io;refine Er hb ?_;dsimp only;unfold rr;exact Er a1 rfl
   .obtain⟨l,v',hl,hv,q⟩:=I.at' j sl a1 n
    refine⟨l,v',hl,KD j l v' hl hv,?_⟩;cases sl with
    |no=>exact absurd rfl n
    |fz d=>exact bS.mono keepZ S.zm q
    |own d=>
     obtain⟨a,q⟩:=q;refine Er q.1 ?_;have Cu:own a=some j:=q.2.1;refine aQ q.2.2.live λo ho=>?_
     have hp:eA rs j 0=none:=by
      cases q:eA rs j 0 with
      |none=>rfl
      |some m=>
       obtain⟨_,h2⟩:=mB q;rw[Y9]at h2;obtain⟨s1,e1,h1⟩:=n9 m _ h2;have:s1 = .own d:=by simp only[ii,a1]at h1;exact(Y5 h1).symm
       subst this;exact absurd (a2 nd m _ h2 e1) (by intro q;cases q)
     have hC:gq own rs a=none:=by unfold gq;exact Er Cu hp
     refine⟨a,rfl,?_,q.2.2.mono keepZ S.zm λo e=>H3 a o e hC (I.oF a (by refine Er Cu ?_;exact λn=>by cases n)) λq=>by rw[q,I.oL]at Cu;exact ah Cu⟩;show io own fx rs a=some j
     unfold io;refine Er (nN a o ho hC) (Er Cu ?_);dsimp only;exact Er hp rfl
    |exc k=>exact eD.mono (sl:=.exc k) (O:=λac=>False) keepZ S.zm (λac f=>f.elim) (λac az f=>f.elim) q
 have MF:∀a,s.heap.get? a=none->fx a=none-> ¬y.wr (io own fx rs) a:=λa e0 on wr=>by
  have f:=I.fresh e0
  rcases wr with wr|wr|wr
  .rcases KI a wr with q|⟨_,q⟩
   .exact q on
   .exact f.1 (.inl q)
  .exact f.1 (.inr (.inl wr))
  .exact f.1 (.inr (.inr wr))
 refine⟨io own fx rs,Z',N1,⟨S.sh,⟨λa o e nw nf=>?_,S.ext.live,λa o f e=>S.ext.fram a o (.inl f) e⟩,S.zm,zn,oB,λi l v ac hl hv=>KD i l v hl hv⟩,?_⟩
 .refine keep a o e ?_ nf λq=>nw (.inr (.inl q))
  cases q:own a with
  |none=>rfl
  |some i=>exact absurd (.inl (by refine Er q ?_;exact λn=>by cases n)) nw
 .refine aM λG1 g=>?_
  rcases R with⟨rv,v,e1,e2,R⟩|⟨nm,a,e1,e2,X⟩
  .refine g ?_
   refine .inl ⟨rv,v,e1,e2,?_⟩;cases rv with
   |fz d=>exact R
   |own d=>
    obtain⟨a,R⟩:=R;refine Er R.1 ?_;exact⟨a,rfl,R.2.1,MF a R.2.1 R.2.2.1,λq=>R.2.2.2.1 (.inl q),R.2.2.2.2.1,R.2.2.2.2.2⟩
   |pl p=>exact R.elim
  .refine g ?_
   exact .inr ⟨nm,a,e1,e2,X.mono λb _ _ ⟨h1,h2,h3,h4⟩=>⟨h1,MF b h1 h2,λq=>h3 (.inl q),h4⟩⟩
end
inductive aV {β:Type} (y:Lay) (bv:List Nat) (own:Addr->Option Nat) (Z:Addr->Prop) (s:Shared) (out:Except Str β×Fm) (e:Value) (s':Shared):Prop
 |mk (nm:Str) (a:Addr) (af:Addr->Option Nat) (Z':Addr->Prop):out.1 = .error nm->e = .ref a->Inv y af Z' s'.heap out.2->Step y bv own Z s af Z' s'->iF s'.heap (λb=>s.heap.get? b=none/\ ¬y.wr af b/\ ¬y.F b/\ ¬Z' b) a nm->aV y bv own Z s out e s'
section
variable {y:Lay} {bv bv':List Nat} {own ae:Addr->Option Nat} {Z aw:Addr->Prop} {s s₁ s':Shared} {e:Value}
theorem aV.elim {p:Prop} {r:β} {f:Fm} (x:aV y bv own Z s ((.ok r:Except Str β),f) e s'):p:=by
 obtain⟨_,_,_,_,q,_⟩:=x;exact LP q
theorem aV.up {γ:Type} {f:Fm} (hb:∀i∈bv,i∈bv') (S:Step y bv' own Z s ae aw s₁) (x:aV y bv ae aw s₁ ((.error nm:Except Str β),f) e s'):aV y bv' own Z s ((.error nm:Except Str γ),f) e s':=by
 refine aM λG g=>?_
 obtain⟨HH,a,af,Z',q,e1,I,S',X⟩:=x;cases q;refine g ?_;exact⟨_,a,af,Z',rfl,e1,I,S.trans (S'.sub hb),X.mono λb ac az h=>⟨S.old b h.1,h.2⟩⟩
theorem aV.sub {out:Except Str β×Fm} (hb:∀i∈bv,i∈bv') (S:Step y bv' own Z s ae aw s₁) (x:aV y bv ae aw s₁ out e s'):aV y bv' own Z s out e s':=by
 obtain⟨nm,a,af,Z',q,e1,I,S',X⟩:=x;exact⟨nm,a,af,Z',q,e1,I,S.trans (S'.sub hb),X.mono λb ac az h=>⟨S.old b h.1,h.2⟩⟩
end
structure Rn (A:Around) (c:dj) (n:Nat):Prop where
 gd:Gd c.glob
 cs:qV n c.call
 dep:A.depth+n<=999
 un:A.units+4*n<=4000
 hh:c.hd=false->A.handled=none
section
variable {c:dj}
theorem vJ:∀ {es:List Ex} {fr b4:Fm} {r:Rv},jL c es fr=some (.ok r,b4)-> ∃d,bU r=some d:=by
 intro x1 fr b4 r h
 induction x1 generalizing fr b4 r with
 |nil=>exact ah h
 |cons e x2 ih=>
  cases x2 with
  |nil=>
    rw[hU]at h;refine aM λG g=>?_
    rcases aX h with⟨_,_,_,q⟩|⟨a,f,_,q⟩
    .refine g ?_
     cases q
    .refine g ?_
     split at q
     .exact ah q
     .obtain⟨rfl,rfl⟩:=rG q;exact⟨_,by assumption⟩
  |cons e' es=>
    rw[gf]at h
    rcases aX h with⟨_,_,_,q⟩|⟨a,f,_,q⟩
    .cases q
    .split at q
     .exact ah q
     .split at q
      .exact ih q
      .obtain⟨rfl,rfl⟩:=rG q;exact⟨_,by assumption⟩
theorem y8:∀ {es:List Ex} {fr b4:Fm} {r:Rv},qz c es fr=some (.ok r,b4)-> ∃d,bU r=some d:=by
 intro x1 fr b4 r h
 induction x1 generalizing fr b4 r with
 |nil=>exact ah h
 |cons e x2 ih=>
  cases x2 with
  |nil=>
    rw[i5]at h;refine aM λG g=>?_
    rcases aX h with⟨_,_,_,q⟩|⟨a,f,_,q⟩
    .refine g ?_
     cases q
    .refine g ?_
     split at q
     .exact ah q
     .obtain⟨rfl,rfl⟩:=rG q;exact⟨_,by assumption⟩
  |cons e' es=>
    rw[hO]at h
    rcases aX h with⟨_,_,_,q⟩|⟨a,f,_,q⟩
    .cases q
    .split at q
     .exact ah q
     .split at q
      .obtain⟨rfl,rfl⟩:=rG q;exact⟨_,by assumption⟩
      .exact ih q
def VO (m:cR Rv):Prop:= ∀r b4,m=some (.ok r,b4)-> ∃d,bU r=some d
namespace VO
variable {fr:Fm}
theorem no:VO none:=λac az h=>ah h
theorem fz {d:D}:VO (some (.ok (.fz d),fr)):=λac az h=>by obtain⟨rfl,rfl⟩:=rG h;exact⟨_,rfl⟩
theorem own {d:D}:VO (some (.ok (.own d),fr)):=λac az h=>by obtain⟨rfl,rfl⟩:=rG h;exact⟨_,rfl⟩
theorem err {e:Str}:VO (some (.error e,fr)):=λac az h=>by cases h
theorem bd {m:cR α} {k:α->Fm->cR Rv} (h:∀a fr,VO (k a fr)):VO (aT m k):=by
 rcases m with _|⟨_|a,f⟩
 .exact no
 .exact err
 .exact h a f
theorem bdC {cl:List Nat} {m:cR α} {k:α->Fm->cR Rv} (h:∀a fr,VO (k a fr)):VO (ud cl m k):=by
 rcases m with _|⟨_|a,f⟩
 .exact no
 .exact err
 .exact h a f
theorem okv {m:Option Rv}:VO (oE fr m):=by
 rcases m with _|⟨_|_|_⟩
 .exact no
 .exact fz
 .exact own
 .exact no
theorem okf {f:α->D} {m:Option α}:VO (px fr (m.map λa=>Rv.fz (f a))):=by
 cases m with
 |none=>exact no
 |some a=>exact fz
theorem okl {f:α->D} {m:Option α}:VO (px fr (m.map λa=>Rv.own (f a))):=by
 cases m with
 |none=>exact no
 |some a=>exact own
theorem it {p:Prop} [Decidable p] {a b:cR Rv} (h:VO a) (k:VO b):VO (if p then a else b):=by
 by_cases q:p
 .exact Er (YV q) h
 .exact Er (YW q) k
theorem self {r:Rv}:VO (match bU r with|none=>none|some _=>some (.ok r,fr)):=by
 rcases r with _|_|_
 .exact fz
 .exact own
 .exact no
theorem o1 {o:Option α} {F:Option α->cR Rv} (h:∀a,VO (F (some a))) (k:VO (F none)):VO (F o):=by
 cases o with
 |none=>exact k
 |some a=>exact h a
end VO
theorem zA {rs:List Rv} {fr:Fm}:VO (lH c f rs fr):=by
 unfold lH;cases cC fr rs with
 |none=>exact .no
 |some ss=>
  refine .it ?_ .no
  rcases c.call c.hd f ss with _|⟨_|r,o⟩
  .exact .no
  .exact .err
  .exact .self
set_option tactic.hygienic true in
theorem IU (x:Ex) (fr:Fm) (hx:∀p,x≠ .pl p):VO (ev c x fr):=by
 cases x with
 |lit d=>exact .fz
 |gl k=>rw[qy];cases c.glob[k]? with
  |none=>exact .no
  |some d=>exact .fz
 |var i=>rw[lr];rcases fr[i]? with _|⟨_|_|_|_|_⟩<;>first|exact .no|exact .fz
 |pl p=>exact absurd rfl (hx p)
 |tup es=>exact .bd λac az=>.okf
 |list es=>exact .bd λac az=>.okl
 |op2 o a b=>
  exact .bd λx ac=>.bd λy fr=>by
   cases bO fr x<;>cases bO fr y<;>first|exact .no|exact .okv
 |neg a=>exact .bd λx ac=>by cases bU x<;>first|exact .no|exact .okf (f:=id)
 |not a=>exact .bd λx fr=>by cases bO fr x<;>first|exact .no|exact .fz
 |cmp o a b=>
  exact .bd λx ac=>.bd λy fr=>by
   cases bO fr x<;>cases bO fr y<;>first|exact .no|exact .okf
 |cmp2 o p a b e=>
  exact .bd λx ac=>.bd λy fr=>by
   cases bU x<;>cases bU y<;>first|exact .no|skip
   rename_i d d';show VO (match ag o d d' with|none=>none|some t=>_)
   cases ag o d d' with
   |none=>exact .no
   |some t=>exact .it (.bd λz fr=>by cases bU z<;>first|exact .no|exact .okf) .fz
 |and es=>exact λac az h=>vJ h
 |or es=>exact λac az h=>y8 h
 |ite t a b=>
  exact .bd λx fr=>by
   cases bO fr x<;>first|exact .no|exact .it (.bd λac az=>.self) (.bd λac az=>.self)
 |idx a i=>
  exact .bd λx ac=>.bd λy fr=>by
   cases bO fr x<;>cases bU y<;>first|exact .no|exact .okf (f:=id)
 |slc a l u=>
  exact .bd λx ac=>.bd λy ac=>.bd λz fr=>by
   cases bO fr x<;>cases bU y<;>cases bU z<;>first|exact .no|exact .okv
 |call f args=>exact .bd λac az=>zA
 |bi b args=>exact .it .no (.bd λrs fr=>by cases iI fr rs<;>first|exact .no|exact .okv)
 |comp cb t it bN aq=>
  exact .it .no (.bd λrs fr=>by
   cases fv rs with
   |none=>exact .no
   |some ds=>
    show VO (match cj it ds with|none=>none|some items=>_)
    cases cj it ds with
    |none=>exact .no
    |some items=>exact .bdC λac az=>.own)
 |isx i yes no=>rw[sr];rcases fr[i]? with _|⟨_|_|_|_|_⟩<;>first|exact .no|exact .it .fz (.it .fz .no)
theorem y2 {x:Ex} {fr b4:Fm} {r:Rv} (h:ev c x fr=some (.ok r,b4)):(∃d,bU r=some d)\/ ∃p,r = .pl p/\x = .pl p:=by
 by_cases hx:∃p,x = .pl p
 .obtain⟨p,rfl⟩:=hx
  rw[qw]at h
  by_cases q:kK fr p=true
  .rw[YV q]at h;obtain⟨rfl,rfl⟩:=rG h;exact .inr ⟨p,rfl,rfl⟩
  .rw[YW q]at h;exact ah h
 .exact .inl (IU x fr (λp q=>hx ⟨p,q⟩) r b4 h)
theorem dZ {x:Ex} {fr b4:Fm} {r:Rv} {bv:List Nat} (h:ev c x fr=some (.ok r,b4)) (ap:Apart x bv):∀i∈gA r,i∉bv:=by
 rcases y2 h with⟨d,e⟩|⟨p,rfl,rfl⟩
 .refine Er (jw e) ?_;intro i hi;cases hi
 .intro i hi
  refine ap i ?_;cases p<;>exact hi
end
section
variable {A:Around} {c:dj} {n:Nat} {env:Env} {sc:Sc} {y:Lay}
 {bv bv':List Nat} {own ae:Addr->Option Nat} {Z aw:Addr->Prop} {s s₁:Shared} {fr av:Fm}
def SE (A:Around) (c:dj) (y:Lay) (m:Sem Value) (x:Ex):Prop:= ∀(own:Addr->Option Nat) (Z:Addr->Prop) (s:Shared) (fr:Fm) (out:Except Str Rv×Fm),ev c x fr=some out->Inv y own Z s.heap fr->
 wpAny (model prog w) A m (jj y (aG x) own Z s out) (aV y (aG x) own Z s out) s
inductive m8 (y:Lay) (bv:List Nat) (own:Addr->Option Nat) (Z:Addr->Prop) (s:Shared) (out:Except Str Rv×Fm) (b:Bool) (s':Shared):Prop
 |mk (r:Rv) (d:D) (af:Addr->Option Nat) (Z':Addr->Prop):out.1 = .ok r->bO out.2 r=some d->b=tD d->Inv y af Z' s'.heap out.2->Step y bv own Z s af Z' s'->m8 y bv own Z s out b s'
def ST (A:Around) (c:dj) (y:Lay) (m:Sem Bool) (x:Ex):Prop:= ∀(own:Addr->Option Nat) (Z:Addr->Prop) (s:Shared) (fr:Fm) (out:Except Str Rv×Fm),ev c x fr=some out->(∀r,out.1 = .ok r-> ∃d,bO out.2 r=some d)->Inv y own Z s.heap fr->
 wpAny (model prog w) A m (m8 y (aG x) own Z s out) (aV y (aG x) own Z s out) s
theorem cr {m:Sem Value} {mo:cR Rv} {k:Rv->Fm->cR β} {out:Except Str β×Fm} {Q:Value->Shared->Prop} (hk:aT mo k=some out) (S:Step y bv' own Z s ae aw s₁) (hb:∀i∈bv,i∈bv')
  (H:∀o,mo=some o->wpAny (model prog w) A m (jj y bv ae aw s₁ o) (aV y bv ae aw s₁ o) s₁)
  (K:∀r an aj aI aA v,mo=some (.ok r,an)->k r an=some out->Inv y aj aI aA.heap an->Step y bv ae aw s₁ aj aI aA->Step y bv' own Z s aj aI aA->fB y aj aI s₁.heap aA.heap r v->Q v aA):
  wpAny (model prog w) A m Q (aV y bv' own Z s out) s₁:=by
 rcases aX hk with⟨e,f,hm,rfl⟩|⟨r,f,hm,hk⟩
 .refine YR (H _ hm) (λv s' p=>?_) λac az x=>x.up hb S
  obtain⟨r,_,_,q,_⟩:=p;exact pQ q
 .refine YR (H _ hm) (λv s' p=>?_) λac az x=>x.elim
  refine aM λG g=>?_
  obtain⟨r',af,Z',q,I,S',R⟩:=p;obtain rfl:=lQ q;refine g ?_;exact K r f af Z' s' v hm hk I S' (S.trans (S'.sub hb)) R
theorem kC {m:Sem Bool} {mo:cR Rv} {k:Rv->Fm->cR β} {out:Except Str β×Fm} {Q:Bool->Shared->Prop} (hk:aT mo k=some out) (S:Step y bv' own Z s ae aw s₁) (hb:∀i∈bv,i∈bv')
  (hd:∀r an,k r an=some out-> ∃d,bO an r=some d)
  (H:∀o,mo=some o->(∀r,o.1 = .ok r-> ∃d,bO o.2 r=some d)->wpAny (model prog w) A m (m8 y bv ae aw s₁ o) (aV y bv ae aw s₁ o) s₁)
  (K:∀r d an aj aI aA,k r an=some out->bO an r=some d->Inv y aj aI aA.heap an->Step y bv ae aw s₁ aj aI aA->Step y bv' own Z s aj aI aA->Q (tD d) aA):
  wpAny (model prog w) A m Q (aV y bv' own Z s out) s₁:=by
 refine aM λG g=>?_
 rcases aX hk with⟨e,f,hm,rfl⟩|⟨r,f,hm,hk⟩
 .refine g ?_
  refine YR (H _ hm λr q=>by exact pQ q) (λv s' p=>?_) λac az x=>x.up hb S
  obtain⟨r,_,_,_,q,_⟩:=p;exact pQ q
 .refine g ?_
  refine YR (H _ hm λr' q=>by refine Er (lQ q).symm ?_;exact hd r f hk) (λv s' p=>?_) λac az x=>x.elim
  obtain⟨r',d,af,Z',q,e,rfl,I,S'⟩:=p;obtain rfl:=lQ q;exact K r d f af Z' s' hk e I S' (S.trans (S'.sub hb))
theorem aY (S:Step y bv own Z s ae aw s₁):Step y bv own Z s ae aw {s₁ with toks:=tk}:=
 S.trans (Step.grow (tk:=tk) (λac az e=>e))
theorem ST.of {x:Ex} (H:SE A c y (eval e env) x) (he:isTrue e env (eval e env)=(do let v <- eval e env;standAt e.pos;holding [v] (truthy v))):ST A c y (isTrue e env (eval e env)) x:=by
 intro own Z s fr out h hd I;refine isTrue_plain (YR (H own Z s fr out h I) (λv s' p=>?_) λac az x=>x) he;obtain⟨r,af,Z',e,I',S,R⟩:=p;exact aQ (hd r e) λd hr=>(iX (R.dat I' hr) λtk=>⟨r,d,af,Z',e,hr,rfl,I',aY S⟩)
theorem DR {k:Const} {d:D} (hk:eM k d):SE A c y (eval (.Constant k kk pos) env) (.lit d):=by
 intro own Z s fr out h I;refine Er (aF h).symm ?_;cases hk with
 |none=>exact wpAny_Constant_none (.val I .refl .none)
 |bool b=>exact wpAny_Constant_bool (.val I .refl (.bool b))
 |int i=>exact wpAny_Constant_int (.val (s':= {s with toks:=s.toks+1}) I (aY .refl) (.int i _))
 |str x hx hz=>exact wpAny_Constant_str (.val (s':= {s with toks:=s.toks+1}) I (aY .refl) (.str x _ hx hz))
set_option tactic.hygienic true in
theorem GX {x:Str} {k:Nat} (R:Rn A c n) (en:aS A sc env y) (hx:sc.isG x) (hk:tb.gl[k]? = some x):SE A c y (eval (.Name x pos) env) (.gl k):=by
 intro own Z s fr out h I;rw[qy]at h
 split at h
 .rename_i d hd
  refine Er (aF h).symm ?_;exact aQ (R.gd.gl k x d hk hd) λv q=>(hH R.gd en I hx q.1 (.val I .refl (q.2 _ _ I.base I.zb)))
 .exact ah h
set_option tactic.hygienic true in
theorem DK {x:Str} (en:aS A sc env y) (hx:sc.isV x i):SE A c y (eval (.Name x pos) env) (.var i):=by
 intro own Z s fr out h I;rw[lr]at h
 split at h
 .rename_i d hd
  obtain rfl:=aF h;obtain⟨l,v,hl,hr,q⟩:=I.at' i _ hd (by intro n;cases n);exact dn en hx hl hr (.val I .refl q)
 .rename_i d hd
  obtain rfl:=aF h;obtain⟨l,a,hl,hr,oa,q,I'⟩:=I.freeze hd;exact dn en hx hl hr (.val I' (.freeze oa) q)
 .exact ah h
set_option tactic.hygienic true in
theorem GV {x:Str} (en:aS A sc env y) (hx:sc.isV x i):SE A c y (eval (.Name x pos) env) (.pl (.var i)):=by
 intro own Z s fr out h I;rw[qw]at h
 split at h
 .rename_i hl
  refine Er (aF h).symm ?_;simp only[kK]at hl;refine aM λG g=>?_
  split at hl
  .refine g ?_
   rename_i sl e;obtain⟨l,v,hl,hr,q⟩:=I.at' i _ e (by rintro rfl;cases hl);exact dn en hx hl hr ⟨_,own,Z,rfl,I,.refl,l,hl,hr⟩
  .refine g ?_
   cases hl
 .exact ah h
theorem Rn.cl (R:Rn A c n):A.units+66<cLine:=by
 have:=R.un;exact(L1 [A.5,n] (.p 1 (.p 66 .x)) (.c 9900) (.a .x (.m 4 .y)) (.c 4000) rfl this)
theorem bQ {a b:List Nat}:∀i∈a,i∈a++b:=λi h=>Zq _ h
theorem de {a b:List Nat}:∀i∈b,i∈a++b:=λi h=>Zp _ h
set_option tactic.hygienic true in
theorem DO {o:lU} {xa xb:Ex} (Ha:SE A c y (eval ea env) xa) (Hb:SE A c y (eval eb env) xb) (ap:Apart xa (aG xb)):SE A c y (eval (.BinOp ea (xn o) eb pos) env) (.op2 o xa xb):=by
 intro own Z s fr out h I;rw[y5]at h;refine wpAny_BinOp (cr (bv:=aG xa) (bv':=aG xa++aG xb) h .refl bQ (λo e=>Ha own Z s fr o e I) λr av ae aw s₁ v bg h ay ba S R=>?_);refine cr (bv:=aG xb) h S de (λo e=>Hb ae aw s₁ av o e ay) λr' an aj aI aA v' jC h aC aU S R'=>?_
 split at h
 .rename_i d e hd he
  obtain⟨q,hq,rfl⟩:=fM h;exact YR (E:=aV y (aG xa++aG xb) own Z s (.ok q,an)) (Ee (by cases o<;>rfl) hq ((aU.rv ay (dZ bg ap) R).dat aC hd) (R'.dat aC he)) (λv s' p=>p.post aC S) λac az x=>x
 .exact ah h
set_option tactic.hygienic true in
theorem DQ {xa:Ex} (Ha:SE A c y (eval ea env) xa):SE A c y (eval (.UnaryOp .USub ea pos) env) (.neg xa):=by
 intro own Z s fr out h I;rw[y6]at h;refine UnaryOp_ (cr (bv:=aG xa) h .refl (λac h=>h) (λo e=>Ha own Z s fr o e I) λr av ae aw s₁ v bg h ay ba S R=>?_)
 split at h
 .rename_i d hd
  obtain⟨q,hq,rfl⟩:=gG h;rw[Y7]at hq;obtain⟨e,hq⟩:=hq;refine Er hq.2.symm ?_;have di:bO av r=some d:=by cases r<;>first|exact hd|exact ah hd
  exact YR (Eb hq.1 (R.dat ay di)) (λv s' p=>p.post ay S) λac az x=>x
 .exact ah h
set_option tactic.hygienic true in
theorem DP {xa:Ex} (Ha:SE A c y (eval ea env) xa):SE A c y (eval (.UnaryOp .Not ea pos) env) (.not xa):=by
 intro own Z s fr out h I;rw[so]at h;refine UnaryOp_ (cr (bv:=aG xa) h .refl (λac h=>h) (λo e=>Ha own Z s fr o e I) λr av ae aw s₁ v bg h ay ba S R=>?_)
 split at h
 .rename_i d hd
  exact Er (aF h).symm (YR (Ea (R.dat ay hd)) (λv s' p=>p.post ay S) λac az x=>x)
 .exact ah h
theorem Dq {xa:Ex} (Ha:ST A c y (isTrue ea env (eval ea env)) xa):ST A c y (isTrue (.UnaryOp .Not ea pos) env mr) (.not xa):=by
 intro own Z s fr out h _ I;rw[so]at h;refine isTrue_not (kC (bv:=aG xa) h .refl (λac h=>h) (λr an h=>?_) (λo e hd=>Ha own Z s fr o e hd I) λr d av ae aw s₁ h hd ay ba S=>?_)
 .split at h
  .exact⟨_,by assumption⟩
  .exact ah h
 .rw[hd]at h
  exact Er (aF h).symm (⟨_,_,ae,aw,rfl,rfl,rfl,ay,S⟩)
set_option tactic.hygienic true in
theorem DW {o:Cm} {xa xb:Ex} (R:Rn A c n) (Ha:SE A c y (eval ea env) xa) (Hb:SE A c y (eval eb env) xb) (ap:Apart xa (aG xb)) (hm:behindInMarks (fg o) eb=false):SE A c y (eval (.Compare ea [fg o] [eb] pos) env) (.cmp o xa xb):=by
 intro own Z s fr out h I;rw[su]at h;refine wpAny_Compare1 (cr (bv:=aG xa) (bv':=aG xa++aG xb) h .refl bQ (λo e=>Ha own Z s fr o e I) λr av ae aw s₁ v bg h ay ba S R1=>?_) hm;refine cr (bv:=aG xb) h S de (λo e=>Hb ae aw s₁ av o e ay) λr' an aj aI aA v' jC h aC aU S R'=>?_
 split at h
 .rename_i d e hd he
  obtain⟨q,hq,rfl⟩:=gG h;rw[Y7]at hq;obtain⟨b,hq⟩:=hq;refine Er hq.2.symm ?_;have hb:=hq.1;exact YR (jy hb ((aU.rv ay (dZ bg ap) R1).dat aC hd) (R'.dat aC he) R.cl) (λv s' p=>p.post aC S) λac az x=>x
 .exact ah h
theorem Op.boolV {Z:Addr->Prop} {s s':Shared} {b:Bool} {v:Value} (p:Op Z s (.fz (.bool b)) v s'):v = .bool b/\ ∃h' tk,s'={s with heap:=h',toks:=tk}/\ ∀a o,s.heap.get? a=some o->h'.get? a=some o:=by
 obtain⟨h',tk,rfl,k,q⟩:=p;cases q with
 |old R=>exact⟨cv.bool (.inl R),h',tk,rfl,k⟩
 |new e e' R=>exact⟨cv.bool (.inl R),h',tk,rfl,k⟩
set_option tactic.hygienic true in
theorem Ds {o:Cm} {xa xb:Ex} (R:Rn A c n) (Ha:SE A c y (eval ea env) xa) (Hb:SE A c y (eval eb env) xb) (ap:Apart xa (aG xb)) (hm:behindInMarks (fg o) eb=false):ST A c y (isTrue (.Compare ea [fg o] [eb] pos) env mr) (.cmp o xa xb):=by
 intro own Z s fr out h _ I;rw[su]at h;refine wpAny_isTrue_Compare1 (cr (bv:=aG xa) (bv':=aG xa++aG xb) h .refl bQ (λo e=>Ha own Z s fr o e I) λr av ae aw s₁ v bg h ay ba S R1=>?_) hm;refine cr (bv:=aG xb) h S de (λo e=>Hb ae aw s₁ av o e ay) λr' an aj aI aA v' jC h aC aU S R'=>?_
 split at h
 .rename_i d e hd he
  obtain⟨q,hq,rfl⟩:=gG h;rw[Y7]at hq;obtain⟨b,hq⟩:=hq;refine Er hq.2.symm ?_;have hb:=hq.1;refine YR (jy hb ((aU.rv ay (dZ bg ap) R1).dat aC hd) (R'.dat aC he) R.cl) (λv s' p=>?_) λac az x=>x
  obtain⟨rfl,h',tk,rfl,k⟩:=p.boolV;exact wpAny_truthy_bool ⟨_,_,aj,aI,rfl,rfl,rfl,aC.grow k,S.trans (.grow k)⟩
 .exact ah h
theorem kX {o p:CmpOp} {b:Expr} (h:behindInMarks p e=false):lastMarks [o,p] [b,e]=false:=by
 simpa [lastMarks] using h
theorem cH {fr:Fm} {r:Rv} {d:D} (h:bU r=some d):bO fr r=some d:=by cases r<;>first|exact h|exact ah h
theorem dS {r:Rv} {d:D} {bv:List Nat} (h:bU r=some d):∀i∈gA r,i∉bv:=by refine Er (jw h) ?_;intro i hi;cases hi
set_option tactic.hygienic true in
theorem AE {ec:Expr} {o p:Cm} {xa xb xc:Ex} (R:Rn A c n) (Ha:SE A c y (eval ea env) xa) (Hb:SE A c y (eval eb env) xb) (Hc:SE A c y (eval ec env) xc) (hm:behindInMarks (fg p) ec=false):
  SE A c y (eval (.Compare ea [fg o,fg p] [eb,ec] pos) env) (.cmp2 o p xa xb xc):=by
 intro own Z s fr out h I;rw[oq]at h;refine Compare_chain (cr (bv:=aG xa) (bv':=aG xa++aG xb++aG xc) h .refl (λi h=>bQ i (bQ i h)) (λo e=>Ha own Z s fr o e I) λr av ae aw s₁ v bg h ay ba S R1=>?_) (kX hm);refine chain_link (cr (bv:=aG xb) h S (λi h=>bQ i (de i h)) (λo e=>Hb ae aw s₁ av o e ay) λr' an aj aI aA v' jC h aC aU S R'=>?_)
 split at h
 .rename_i d e hd he
  split at h
  .exact ah h
  .rename_i t ht
   refine YR (jy ht ((aU.rv ay (dS hd) R1).dat aC (cH hd)) (R'.dat aC (cH he)) R.cl) (λv s' p=>?_) λac az x=>x
   obtain⟨rfl,h',tk,rfl,k⟩:=p.boolV;refine wpAny_truthy_bool ?_;cases t with
   |false=>
    rw[YW (by simp)]at h ⊢;exact Er (aF h).symm (.val (aC.grow k) (S.trans (.grow k)) (.bool _))
   |true=>
    rw[YV rfl]at h ⊢;have iw:Step y (aG xb) aj aI aA aj aI {aA with heap:=h',toks:=tk}:=.grow k;refine chain_last (cr (bv:=aG xc) h (S.trans (.grow k)) de (λo e=>Hc aj aI _ an o e (aC.grow k)) λr3 ff rD fZ nE v3 IS h lP zQ S R3=>?_)
    split at h
    .rename_i d3 LB
     obtain⟨q,hq,rfl⟩:=gG h;rw[Y7]at hq;obtain⟨b,hq⟩:=hq;refine Er hq.2.symm ?_;exact YR (jy hq.1 ((zQ.rv (aC.grow k) (dS he) (iw.rv aC (dS he) R')).dat lP (cH he)) (R3.dat lP (cH LB)) R.cl) (λv s' p=>p.post lP S) λac az x=>x
    .exact ah h
 .exact ah h
set_option tactic.hygienic true in
theorem Al {ec:Expr} {o p:Cm} {xa xb xc:Ex} (R:Rn A c n) (Ha:SE A c y (eval ea env) xa) (Hb:SE A c y (eval eb env) xb) (Hc:SE A c y (eval ec env) xc) (hm:behindInMarks (fg p) ec=false):
  ST A c y (isTrue (.Compare ea [fg o,fg p] [eb,ec] pos) env mr) (.cmp2 o p xa xb xc):=by
 intro own Z s fr out h _ I;rw[oq]at h;refine isTrue_chain (cr (bv:=aG xa) (bv':=aG xa++aG xb++aG xc) h .refl (λi h=>bQ i (bQ i h)) (λo e=>Ha own Z s fr o e I) λr av ae aw s₁ v bg h ay ba S R1=>?_) (kX hm);refine test_link (cr (bv:=aG xb) h S (λi h=>bQ i (de i h)) (λo e=>Hb ae aw s₁ av o e ay) λr' an aj aI aA v' jC h aC aU S R'=>?_)
 split at h
 .rename_i d e hd he
  split at h
  .exact ah h
  .rename_i t ht
   refine YR (jy ht ((aU.rv ay (dS hd) R1).dat aC (cH hd)) (R'.dat aC (cH he)) R.cl) (λv s' p=>?_) λac az x=>x
   obtain⟨rfl,h',tk,rfl,k⟩:=p.boolV;refine wpAny_truthy_bool ?_;cases t with
   |false=>
    rw[YW (by simp)]at h ⊢;exact Er (aF h).symm (⟨_,_,aj,aI,rfl,rfl,rfl,aC.grow k,S.trans (.grow k)⟩)
   |true=>
    rw[YV rfl]at h ⊢;have iw:Step y (aG xb) aj aI aA aj aI {aA with heap:=h',toks:=tk}:=.grow k;refine test_last (cr (bv:=aG xc) h (S.trans (.grow k)) de (λo e=>Hc aj aI _ an o e (aC.grow k)) λr3 ff rD fZ nE v3 IS h lP zQ S R3=>?_)
    split at h
    .rename_i d3 LB
     obtain⟨q,hq,rfl⟩:=gG h;rw[Y7]at hq;obtain⟨b,hq⟩:=hq;refine Er hq.2.symm ?_;have Rb:=zQ.rv (aC.grow k) (dS he) (iw.rv aC (dS he) R');refine YR (jy hq.1 (Rb.dat lP (cH he)) (R3.dat lP (cH LB)) R.cl) (λv s' p=>?_) λac az x=>x
     obtain⟨rfl,h',tk,rfl,k⟩:=p.boolV;exact wpAny_truthy_bool ⟨_,_,rD,fZ,rfl,rfl,rfl,lP.grow k,S.trans (.grow k)⟩
    .exact ah h
 .exact ah h
set_option tactic.hygienic true in
theorem DS {et:Expr} {xt xa xb:Ex} (Ht:ST A c y (isTrue et env (eval et env)) xt) (Ha:SE A c y (eval ea env) xa) (Hb:SE A c y (eval eb env) xb):SE A c y (eval (.IfExp et ea eb pos) env) (.ite xt xa xb):=by
 intro own Z s fr out h I;rw[sq]at h;refine IfExp_ (kC (bv:=aG xt) (bv':=aG xt++aG xa++aG xb) h .refl (λi h=>bQ i (bQ i h)) (λr an h=>?_) (λo e hd=>Ht own Z s fr o e hd I) λr d av ae aw s₁ h hd ay ba S=>?_)
 .split at h
  .exact⟨_,by assumption⟩
  .exact ah h
 .rw[hd]at h
  dsimp only at h
  split at h
  .rename_i ht
   rw[YV ht];refine cr (bv:=aG xa) h S (λi h=>bQ i (de i h)) (λo e=>Ha ae aw s₁ av o e ay) λr' an aj aI aA v' jC h aC aU S' R'=>?_
   split at h
   .exact ah h
   .cases h;exact⟨_,aj,aI,rfl,aC,S',R'.since ba.old⟩
  .rename_i ht
   rw[YW ht];refine cr (bv:=aG xb) h S de (λo e=>Hb ae aw s₁ av o e ay) λr' an aj aI aA v' jC h aC aU S' R'=>?_
   split at h
   .exact ah h
   .cases h;exact⟨_,aj,aI,rfl,aC,S',R'.since ba.old⟩
set_option tactic.hygienic true in
theorem Dr {et:Expr} {xt xa xb:Ex} (Ht:ST A c y (isTrue et env (eval et env)) xt) (Ha:ST A c y (isTrue ea env (eval ea env)) xa) (Hb:ST A c y (isTrue eb env (eval eb env)) xb):
  ST A c y (isTrue (.IfExp et ea eb pos) env mr) (.ite xt xa xb):=by
 intro own Z s fr out h _ I;rw[sq]at h;refine isTrue_IfExp (kC (bv:=aG xt) (bv':=aG xt++aG xa++aG xb) h .refl (λi h=>bQ i (bQ i h)) (λr an h=>?_) (λo e hd=>Ht own Z s fr o e hd I) λr d av ae aw s₁ h hd ay ba S=>?_)
 .split at h
  .exact⟨_,by assumption⟩
  .exact ah h
 .have h:=hd▸h
  dsimp only at h;have dd:∀(r:Rv) (an:Fm),(match bU r with|none=>none|some _=>some ((Except.ok r:Except Str Rv),an))=some out-> ∃d,bO an r=some d:=λr an h=>by
   split at h
   .exact ah h
   .exact⟨_,cH (by assumption)⟩
  split at h
  .rename_i ht
   rw[YV ht];refine kC (bv:=aG xa) h S (λi h=>bQ i (de i h)) dd (λo e hd=>Ha ae aw s₁ av o e hd ay) λr' d' an aj aI aA h e aC aU S'=>?_
   split at h
   .exact ah h
   .cases h;exact⟨_,_,aj,aI,rfl,e,rfl,aC,S'⟩
  .rename_i ht
   rw[YW ht];refine kC (bv:=aG xb) h S de dd (λo e hd=>Hb ae aw s₁ av o e hd ay) λr' d' an aj aI aA h e aC aU S'=>?_
   split at h
   .exact ah h
   .cases h;exact⟨_,_,aj,aI,rfl,e,rfl,aC,S'⟩
set_option tactic.hygienic true in
theorem DV {xa xb:Ex} (Ha:SE A c y (eval ea env) xa) (Hb:SE A c y (eval eb env) xb) (ap:Apart xa (aG xb)) (hs:∀o i,subscripted eb false o i=operate [o,i] (getItem o i)):SE A c y (eval (.Subscript ea eb pos) env) (.idx xa xb):=by
 intro own Z s fr out h I;rw[y7]at h;refine Subscript_ (cr (bv:=aG xa) (bv':=aG xa++aG xb) h .refl bQ (λo e=>Ha own Z s fr o e I) λr av ae aw s₁ v bg h ay ba S R=>?_);refine cr (bv:=aG xb) h S de (λo e=>Hb ae aw s₁ av o e ay) λr' an aj aI aA v' jC h aC aU S R'=>?_
 split at h
 .rename_i d e hd he
  obtain⟨q,hq,rfl⟩:=gG h;rw[Y7]at hq;obtain⟨b,hq⟩:=hq;refine Er hq.2.symm ?_;exact fW (rF (A:=A) (E:=aV y (aG xa++aG xb) own Z s ((.ok (.fz b):Except Str Rv),an)) hq.1 ((aU.rv ay (dZ bg ap) R).dat aC hd) (R'.dat aC (cH he))) λT id Q=>(tail_any Q.1 Q.2.1 (YR Q.2.2 (λv s' p=>p.post aC S) λac az x=>x) (hs _ _))
 .exact ah h
set_option tactic.hygienic true in
theorem DM {lo hi:Option Expr} {xa xl xh:Ex} {p:Pos} (Ha:SE A c y (eval ea env) xa) (Hl:SE A c y (evalPart lo env) xl) (Hh:SE A c y (evalPart hi env) xh) (ap:Apart xa (aG xl++aG xh)):
  SE A c y (eval (.Subscript ea (.Slice lo hi none p) pos) env) (.slc xa xl xh):=by
 intro own Z s fr out h I;rw[y4]at h;refine Subscript_ (cr (bv:=aG xa) (bv':=aG xa++aG xl++aG xh) h .refl (λi h=>bQ i (bQ i h)) (λo e=>Ha own Z s fr o e I) λr av ae aw s₁ v bg h ay ba S R=>?_);refine wpAny_Slice (cr (bv:=aG xl) h S (λi h=>bQ i (de i h)) (λo e=>Hl ae aw s₁ av o e ay) λr2 an aj aI aA v2 jC h aC aU S R'=>?_);refine cr (bv:=aG xh) h S de (λo e=>Hh aj aI aA an o e aC) λr3 ff rD fZ nE v3 IS h gu iw S R3=>?_
 refine wpAny_of_eq (evalPart_none _) ?_;refine aM λG g=>?_
 split at h
 .refine g ?_
  rename_i d l u hd hl hu;obtain⟨q,hq,rfl⟩:=fM h;have Rl:=iw.rv aC (dS hl) R';exact fW (xk (A:=A) (E:=aV y (aG xa++aG xl++aG xh) own Z s ((.ok q:Except Str Rv),ff)) hq ((iw.rv aC (λi hi hb=>dZ bg ap i hi (de i hb)) (aU.rv ay (λi hi hb=>dZ bg ap i hi (bQ i hb)) R)).dat gu hd) (Rl.dat gu (cH hl)) (R3.dat gu (cH hu))) λT id Q=>(tail_any Q.1 Q.2.1 (YR Q.2.2 (λv s' p=>p.post gu S) λac az x=>x) rfl)
 .refine g ?_
  exact ah h
end
def F2 (P:Expr->Ex->Prop):List Expr->List Ex->Prop
 |[],[]=>True
 |e::es,x::xs=>P e x/\Apart x (bC xs)/\F2 P es xs
 |_,_=>False
section
variable {A:Around} {c:dj} {n:Nat} {env:Env} {sc:Sc} {y:Lay}
 {bv bv':List Nat} {own ae:Addr->Option Nat} {Z aw:Addr->Prop} {s s₁:Shared} {fr av:Fm}
theorem jj.from {out:Except Str Rv×Fm} {v:Value} (hb:∀i∈bv,i∈bv') (S:Step y bv' own Z s ae aw s₁) (p:jj y bv ae aw s₁ out v s'):jj y bv' own Z s out v s':=by
 obtain⟨r,af,Z',e,I,S',R⟩:=p;exact⟨r,af,Z',e,I,S.trans (S'.sub hb),R.since S.old⟩
theorem m8.from {out:Except Str Rv×Fm} {v:Bool} (hb:∀i∈bv,i∈bv') (S:Step y bv' own Z s ae aw s₁) (p:m8 y bv ae aw s₁ out v s'):m8 y bv' own Z s out v s':=by
 obtain⟨r,d,af,Z',e,e',ev,I,S'⟩:=p;exact⟨r,d,af,Z',e,e',ev,I,S.trans (S'.sub hb)⟩
set_option tactic.hygienic true in
theorem DY:∀ {es:List Expr} {xs:List Ex},F2 (λe x=>SE A c y (eval e env) x) es xs->SE A c y (eval (.BoolOp .And es pos) env) (.and xs):=by
 intro x1 x2 F
 induction x1 generalizing x2 with
 |nil=>
  cases x2 with
  |nil=>intro own Z s fr out h I;exact ah h
  |cons x4 x5=>exact F.elim
 |cons e x3 ih=>
  cases x3 with
  |nil=>
   cases x2 with
   |nil=>exact F.elim
   |cons x x6=>
    cases x6 with
    |nil=>
      intro own Z s fr out h I;rw[lw,hU]at h;refine BoolOp_one (cr (bv:=aG x) (bv':=aG x++[]) h .refl bQ (λo e=>F.1 own Z s fr o e I) λr av ae aw s₁ v bg h ay ba S R=>?_)
      split at h
      .exact ah h
      .exact Er (aF h).symm (⟨_,ae,aw,rfl,ay,S,R⟩)
    |cons x7 x8=>exact F.2.2.elim
  |cons e' es=>
   cases x2 with
   |nil=>exact F.elim
   |cons x x9=>
    cases x9 with
    |nil=>exact F.2.2.elim
    |cons x' xs=>
      intro own Z s fr out h I;rw[lw,gf]at h;refine BoolOp_and (cr (bv:=aG x) (bv':=aG x++bC (x'::xs)) h .refl bQ (λo e=>F.1 own Z s fr o e I) λr av ae aw s₁ v bg h ay ba S R=>?_)
      split at h
      .exact ah h
      .rename_i d hd
       refine iX (R.dat ay (cH hd)) λtk=>?_
       split at h
       .rename_i ht
        exact Er (YV ht) (YR (ih F.2.2 ae aw {s₁ with toks:=tk} av out h ay) (λv s' p=>p.from de (aY (tk:=tk) S)) λe s' p=>p.sub de (aY (tk:=tk) S))
       .rename_i ht
        exact Er (YW ht) (Er (aF h).symm (⟨_,ae,aw,rfl,ay,aY S,R⟩))
set_option tactic.hygienic true in
theorem GW:∀ {es:List Expr} {xs:List Ex},F2 (λe x=>SE A c y (eval e env) x) es xs->SE A c y (eval (.BoolOp .Or es pos) env) (.or xs):=by
 intro x1 x2 F
 induction x1 generalizing x2 with
 |nil=>
  cases x2 with
  |nil=>intro own Z s fr out h I;exact ah h
  |cons x4 x5=>exact F.elim
 |cons e x3 ih=>
  cases x3 with
  |nil=>
   cases x2 with
   |nil=>exact F.elim
   |cons x x6=>
    cases x6 with
    |nil=>
      intro own Z s fr out h I;rw[qx,i5]at h;refine BoolOp_one (cr (bv:=aG x) (bv':=aG x++[]) h .refl bQ (λo e=>F.1 own Z s fr o e I) λr av ae aw s₁ v bg h ay ba S R=>?_)
      split at h
      .exact ah h
      .exact Er (aF h).symm (⟨_,ae,aw,rfl,ay,S,R⟩)
    |cons x7 x8=>exact F.2.2.elim
  |cons e' es=>
   cases x2 with
   |nil=>exact F.elim
   |cons x x9=>
    cases x9 with
    |nil=>exact F.2.2.elim
    |cons x' xs=>
      intro own Z s fr out h I;rw[qx,hO]at h;refine BoolOp_or (cr (bv:=aG x) (bv':=aG x++bC (x'::xs)) h .refl bQ (λo e=>F.1 own Z s fr o e I) λr av ae aw s₁ v bg h ay ba S R=>?_)
      split at h
      .exact ah h
      .rename_i d hd
       refine iX (R.dat ay (cH hd)) λtk=>?_
       split at h
       .rename_i ht
        exact Er (YV ht) (Er (aF h).symm (⟨_,ae,aw,rfl,ay,aY S,R⟩))
       .rename_i ht
        exact Er (YW ht) (YR (ih F.2.2 ae aw {s₁ with toks:=tk} av out h ay) (λv s' p=>p.from de (aY (tk:=tk) S)) λe s' p=>p.sub de (aY (tk:=tk) S))
set_option tactic.hygienic true in
theorem Dt:∀ {es:List Expr} {xs:List Ex},F2 (λe x=>ST A c y (isTrue e env (eval e env)) x) es xs->ST A c y (isTrue (.BoolOp .And es pos) env mr) (.and xs):=by
 intro x1 x2 F
 induction x1 generalizing x2 with
 |nil=>
  cases x2 with
  |nil=>intro own Z s fr out h _ I;exact ah h
  |cons x4 x5=>exact F.elim
 |cons e x3 ih=>
  cases x3 with
  |nil=>
   cases x2 with
   |nil=>exact F.elim
   |cons x x6=>
    cases x6 with
    |nil=>
      intro own Z s fr out h _ I;rw[lw,hU]at h;refine isTrue_and (kC (bv:=aG x) (bv':=aG x++[]) h .refl bQ (λr an h=>?_) (λo e hd=>F.1 own Z s fr o e hd I) λr d av ae aw s₁ h hd ay ba S=>?_)
      .split at h
       .exact ah h
       .exact⟨_,cH (by assumption)⟩
      .split at h
       .exact ah h
       .refine Er (aF h).symm ?_
        cases ht:tD d with
        |true=>exact isTrue_and_nil ⟨_,_,ae,aw,rfl,hd,ht.symm,ay,S⟩
        |false=>exact⟨_,_,ae,aw,rfl,hd,ht.symm,ay,S⟩
    |cons x7 x8=>exact F.2.2.elim
  |cons e' es=>
   cases x2 with
   |nil=>exact F.elim
   |cons x x9=>
    cases x9 with
    |nil=>exact F.2.2.elim
    |cons x' xs=>
      intro own Z s fr out h oH I;rw[lw,gf]at h;refine isTrue_and (kC (bv:=aG x) (bv':=aG x++bC (x'::xs)) h .refl bQ (λr an h=>?_) (λo e hd=>F.1 own Z s fr o e hd I) λr d av ae aw s₁ h hd ay ba S=>?_)
      .split at h
       .exact ah h
       .exact⟨_,cH (by assumption)⟩
      .split at h
       .exact ah h
       .rename_i d' di
        have Go:=cH (fr:=av) di;rw[hd]at Go;obtain rfl:=aF Go
        split at h
        .rename_i ht
         exact Er (YV ht) (YR (ih F.2.2 ae aw s₁ av out h oH ay) (λv s' p=>p.from de S) λe s' p=>p.sub de S)
        .rename_i ht
         exact Er (YW ht) (Er (aF h).symm (⟨_,_,ae,aw,rfl,hd,by simpa using (by simpa using ht:tD d=false).symm,ay,S⟩))
set_option tactic.hygienic true in
theorem GR:∀ {es:List Expr} {xs:List Ex},F2 (λe x=>ST A c y (isTrue e env (eval e env)) x) es xs->ST A c y (isTrue (.BoolOp .Or es pos) env mr) (.or xs):=by
 intro x1 x2 F
 induction x1 generalizing x2 with
 |nil=>
  cases x2 with
  |nil=>intro own Z s fr out h _ I;exact ah h
  |cons x4 x5=>exact F.elim
 |cons e x3 ih=>
  cases x3 with
  |nil=>
   cases x2 with
   |nil=>exact F.elim
   |cons x x6=>
    cases x6 with
    |nil=>
      intro own Z s fr out h _ I;rw[qx,i5]at h;refine isTrue_or (kC (bv:=aG x) (bv':=aG x++[]) h .refl bQ (λr an h=>?_) (λo e hd=>F.1 own Z s fr o e hd I) λr d av ae aw s₁ h hd ay ba S=>?_)
      .split at h
       .exact ah h
       .exact⟨_,cH (by assumption)⟩
      .split at h
       .exact ah h
       .refine Er (aF h).symm ?_
        cases ht:tD d with
        |true=>exact⟨_,_,ae,aw,rfl,hd,ht.symm,ay,S⟩
        |false=>exact isTrue_or_nil ⟨_,_,ae,aw,rfl,hd,ht.symm,ay,S⟩
    |cons x7 x8=>exact F.2.2.elim
  |cons e' es=>
   cases x2 with
   |nil=>exact F.elim
   |cons x x9=>
    cases x9 with
    |nil=>exact F.2.2.elim
    |cons x' xs=>
      intro own Z s fr out h oH I;rw[qx,hO]at h;refine isTrue_or (kC (bv:=aG x) (bv':=aG x++bC (x'::xs)) h .refl bQ (λr an h=>?_) (λo e hd=>F.1 own Z s fr o e hd I) λr d av ae aw s₁ h hd ay ba S=>?_)
      .split at h
       .exact ah h
       .exact⟨_,cH (by assumption)⟩
      .split at h
       .exact ah h
       .rename_i d' di
        have Go:=cH (fr:=av) di;rw[hd]at Go;obtain rfl:=aF Go
        split at h
        .rename_i ht
         exact Er (YV ht) (Er (aF h).symm (⟨_,_,ae,aw,rfl,hd,ht.symm,ay,S⟩))
        .rename_i ht
         exact Er (YW ht) (YR (ih F.2.2 ae aw s₁ av out h oH ay) (λv s' p=>p.from de S) λe s' p=>p.sub de S)
inductive sV (y:Lay) (bv:List Nat) (own:Addr->Option Nat) (Z:Addr->Prop) (s:Shared) (out:Except Str (List Rv)×Fm) (vs:List Value) (s':Shared):Prop
 |mk (rs:List Rv) (af:Addr->Option Nat) (Z':Addr->Prop):out.1 = .ok rs->Inv y af Z' s'.heap out.2->Step y bv own Z s af Z' s'->eE y af Z' s.heap s'.heap rs vs->sV y bv own Z s out vs s'
theorem fB.frz {r:Rv} {v:Value} (I:Inv y af Z' s'.heap fr) (S:Step y bv own Z s af Z' s') (q:fB y af Z' s.heap s'.heap r v):
  ∃m4,Inv y af m4 s'.heap fr/\Step y bv own Z s af m4 s'/\fB y af m4 s.heap s'.heap (frz r) v/\ ∀a,Z' a->m4 a:=by
 cases r with
 |fz d=>exact⟨Z',I,S,q,λac z=>z⟩
 |own d=>
  obtain⟨a,rfl,n0,nw,nf,nz,w⟩:=q;obtain⟨o,ho⟩:=w.live;exact⟨_,I.addZ nw nf ho,S.addZ n0,w.rep (λac z=>.inl z) (.inr rfl),λac z=>.inl z⟩
 |pl p=>exact⟨Z',I,S,q,λac z=>z⟩
theorem rz (r:Rv):gA (frz r)=gA r:=by cases r<;>rfl
theorem eE.since {h₁:Heap} (k:∀a,h₁.get? a=none->h₀.get? a=none):∀ {rs:List Rv} {vs:List Value},eE y own Z h₁ h rs vs->eE y own Z h₀ h rs vs:=by
 intro x1 x2 q
 induction x1 generalizing x2 with
 |nil=>
  cases x2 with
  |nil=>exact trivial
  |cons x5 x6=>exact q.elim
 |cons x3 x4 ih=>
  cases x2 with
  |nil=>exact q.elim
  |cons x7 x8=>exact⟨q.1.since k,ih q.2⟩
set_option tactic.hygienic true in
theorem eE.repAll:∀ {rs:List Rv} {vs:List Value} {ds:List D},eE y own Z h₀ h rs vs->fv rs=some ds->ao h Z vs ds:=by
 intro rs vs ds q e
 induction rs generalizing vs ds with
 |nil=>
  cases vs with
  |nil=>refine Er (aF e).symm ?_;exact .nil
  |cons x1 x2=>exact q.elim
 |cons r rs ih=>
  cases vs with
  |nil=>exact q.elim
  |cons v vs=>
    simp only[fv]at e
    split at e
    .rename_i d ke hd lT
     refine Er (aF e).symm ?_;refine .cons ?_ (ih q.2 lT);have:=q.1;cases r with
     |fz d'=>exact Er (aF hd).symm this
     |own d'=>refine Er (aF hd).symm ?_;exact this
     |pl p=>exact ah hd
    .exact ah e
theorem nJ {fr:Fm} {r:Rv} {d:D} (h:bO fr r=some d):bO fr (frz r)=some d:=by cases r<;>exact h
theorem uG:∀ {es:List Expr} {xs:List Ex},F2 (λe x=>CE sc e x/\SE A c y (eval e env) x) es xs-> ∀(own:Addr->Option Nat) (Z:Addr->Prop) (s:Shared) (fr:Fm) (out:Except Str (List Rv)×Fm),lq c xs fr=some out->Inv y own Z s.heap fr->
  wpAny (model prog w) A (spliced (backTo pos (starEach es env))) (sV y (bC xs) own Z s out) (aV y (bC xs) own Z s out) s:=by
 intro es xs F
 induction es generalizing xs with
 |nil=>
  cases xs with
  |nil=>
    intro own Z s fr out h I;exact Er (aF h).symm (spliced_none ⟨[],own,Z,rfl,I,.refl,trivial⟩)
  |cons x1 x2=>exact F.elim
 |cons e es ih=>
  cases xs with
  |nil=>exact F.elim
  |cons x xs=>
    intro own Z s fr out h I;rw[dw]at h;refine spliced_more (cr (bv:=aG x) (bv':=aG x++bC xs) h .refl bQ (λo e=>F.1.2 own Z s fr o e I) λr av ae aw s₁ v bg h ay ba S R=>?_) (F.1.1.star env es);refine aM λG g=>?_
    refine aQ (R.frz ay S) λaI Q=>?_;have aC:=Q.1;have aU:=Q.2.1;have iS:=Q.2.2.1
    have ap:∀i∈gA (frz r),i∉bC xs:=by rw[rz];exact dZ bg F.2.1
    rcases aX h with⟨e',f,hm,rfl⟩|⟨rs,f,hm,h⟩
    .refine g ?_
     refine YR (ih F.2.2 ae aI s₁ av _ hm aC) (λvs s' p=>?_) λe s' p=>p.up de aU
     obtain⟨_,_,_,q,_⟩:=p;exact pQ q
    .refine g ?_
     refine YR (ih F.2.2 ae aI s₁ av _ hm aC) (λvs s' p=>?_) λe s' p=>p.elim
     obtain⟨KB,af,Z',q,I',S',R'⟩:=p;obtain rfl:=lQ q;exact Er (aF h).symm (⟨r::rs,af,Z',rfl,I',aU.trans (S'.sub de),S'.rv aC ap iS,R'.since aU.old⟩)
theorem pb {m:Sem (List Value)} {mo:cR (List Rv)} {k:List Rv->Fm->cR β} {out:Except Str β×Fm} {Q:List Value->Shared->Prop} (hk:aT mo k=some out) (S:Step y bv' own Z s ae aw s₁) (hb:∀i∈bv,i∈bv')
  (H:∀o,mo=some o->wpAny (model prog w) A m (sV y bv ae aw s₁ o) (aV y bv ae aw s₁ o) s₁)
  (K:∀rs an aj aI aA vs,mo=some (.ok rs,an)->k rs an=some out->Inv y aj aI aA.heap an->Step y bv ae aw s₁ aj aI aA->Step y bv' own Z s aj aI aA->eE y aj aI s₁.heap aA.heap rs vs->Q vs aA):
  wpAny (model prog w) A m Q (aV y bv' own Z s out) s₁:=by
 rcases aX hk with⟨e,f,hm,rfl⟩|⟨r,f,hm,hk⟩
 .refine YR (H _ hm) (λv s' p=>?_) λac az x=>x.up hb S
  obtain⟨r,_,_,q,_⟩:=p;exact pQ q
 .refine YR (H _ hm) (λv s' p=>?_) λac az x=>x.elim
  refine aM λG g=>?_
  obtain⟨r',af,Z',q,I,S',R⟩:=p;obtain rfl:=lQ q;refine g ?_;exact K r f af Z' s' v hm hk I S' (S.trans (S'.sub hb)) R
theorem kb:∀ {xs:List Ex} {fr b4:Fm} {rs:List Rv},lq c xs fr=some (.ok rs,b4)->rs.length=xs.length:=by
 intro xs x1 x2 x3 h
 induction xs generalizing x1 x2 x3 with
 |nil=>obtain⟨rfl,rfl⟩:=rG h;rfl
 |cons x xs ih=>
  rw[dw]at h
  rcases aX h with⟨_,_,_,q⟩|⟨a,f,_,q⟩
  .cases q
  .rcases aX q with⟨_,_,_,q⟩|⟨a',f',h',q⟩
   .cases q
   .obtain⟨rfl,rfl⟩:=rG q;exact Er ZD (Er ZD (Er (ih h') rfl))
theorem DL {xs:List Ex} {k:Nat} (F:F2 (λe x=>CE sc e x/\SE A c y (eval e env) x) es xs) (hl:xs.length<=1000):SE A c y (eval (.Tuple es k pos) env) (.tup xs):=by
 intro own Z s fr out h I;rw[y3]at h;refine Tuple_ (pb (bv:=bC xs) h .refl (λac h=>h) (λo e=>uG F own Z s fr o e I) λrs av ae aw s₁ vs bg h ay ba S R=>?_);obtain⟨q,hq,rfl⟩:=gG h;rw[Y7]at hq;obtain⟨ds,hq⟩:=hq;refine Er hq.2.symm ?_;have hz:vs.length<=Sz:=by exact Er R.length.symm (Er (kb bg) (Zf hl (by decide)))
 exact YQ ((Op.newT (R.repAll hq.1) hz).post ay S) (by show vs.toArray.size<=sizeLine;refine Er Zj (Er bb.symm ?_);exact hz)
theorem AA {xs:List Ex} (F:F2 (λe x=>CE sc e x/\SE A c y (eval e env) x) es xs) (hl:xs.length<=1000):SE A c y (eval (.List es pos) env) (.list xs):=by
 intro own Z s fr out h I;rw[t6]at h;refine List_ (pb (bv:=bC xs) h .refl (λac h=>h) (λo e=>uG F own Z s fr o e I) λrs av ae aw s₁ vs bg h ay ba S R=>?_);obtain⟨q,hq,rfl⟩:=gG h;rw[Y7]at hq;obtain⟨ds,hq⟩:=hq;refine Er hq.2.symm ?_;have hz:vs.length<=Sz:=by exact Er R.length.symm (Er (kb bg) (Zf hl (by decide)))
 exact YQ ((Op.newL (R.repAll hq.1) hz).post ay S) (by show vs.toArray.size<=sizeLine;refine Er Zj (Er bb.symm ?_);exact hz)
theorem kf {xs:List Ex} {f:Value} {Q:Args->Shared->Prop} (F:F2 (λe x=>CE sc e x/\SE A c y (eval e env) x) es xs)
  (h:wpAny (model prog w) A (spliced (backTo pos (starEach es env))) (λvs s'=>Q ⟨vs,[]⟩ s') E s):wpAny (model prog w) A (evalArgs f true (backTo pos (starEach es env)) []) Q E s:=by
 cases es with
 |nil=>
  unfold evalArgs;refine YS (YR h (λvs s' h'=>wpAny_holding (YS (YO (YS (YO (YO h')))))) λac az x=>x)
 |cons e es=>
  cases xs with
  |nil=>exact F.elim
  |cons x xs=>
   rw[F.1.1.star env es]at h ⊢;exact Z1 h
set_option tactic.hygienic true in
theorem AF {d:DefRec} {xs:List Ex} {p:Pos} (R:Rn A c n) (en:aS A sc env y) (hf:tb.fn[f]? = some d) (hg:sc.isG d.name)
  (F:F2 (λe x=>CE sc e x/\SE A c y (eval e env) x) es xs):SE A c y (eval (.Call (.Name d.name p) es [] pos) env) (.call f xs):=by
 intro own Z s fr out h I;rw[t8]at h;refine aM λG g=>?_
 obtain⟨a,o,pm,code,qE,hm,ho,hd,Nd⟩:=R.gd.fn f d hf;refine g ?_;refine Call_Name rfl (hH R.gd en I hg hm ?_);refine Calls.callWith_function (o:=o) (fd:=docDef d.name d.params d.body d.scope pm code qE) (kf F ?_);refine pb (bv:=bC xs) h .refl (λac h=>h) (λo e=>uG F own Z s fr o e I) λrs av ae aw s₁ vs bg h ay ba S Rs=>?_
 refine⟨⟨ay.base a o ho,hd⟩,?_⟩;unfold lH at h
 split at h
 .exact ah h
 .rename_i ss K8
  split at h
  .refine aM λG3 g3=>?_
   rename_i nd;have key:∀pg bW,c.call c.hd f ss=some (pg,bW)->codeAny (model prog w) A (.call (.ref a) ⟨[]++vs,[]⟩) (jk (λa=>y.F a\/a=y.L) (gq ae rs) aw s₁ ss vs pg bW) s₁:=λpg bW hc=>
    R.cs c.hd f ss pg bW hc d hf a hm A _ _ _ _ vs R.dep R.un R.hh en.stk (B5 ay rs) (sJ ay Rs K8 nd)
   split at h
   .refine g3 ?_
    exact ah h
   .refine g3 ?_
    refine aM λG4 g4=>?_
    rename_i e' bW hc;refine g4 ?_;refine wpAny_call (codeAny_mono (key _ _ hc) λr s' P=>?_);refine Er (aF h).symm ?_;refine aM λG1 g1=>?_
    obtain⟨af,Z',I',S',⟨rv,v,q,_⟩|⟨nm,ea,q,rfl,X⟩⟩:=mT ay Rs K8 nd P
    .refine g1 ?_
     exact pQ q
    .refine g1 ?_
     refine aM λG2 g2=>?_
     cases q;refine g2 ?_;exact⟨_,ea,af,Z',rfl,rfl,I',S.trans (S'.sub λi h=>by cases h),X.mono λb ac az h=>⟨S.old b h.1,h.2⟩⟩
   .refine g3 ?_
    rename_i r bW hc
    split at h
    .exact ah h
    .rename_i dv Pj
     refine Er (aF h).symm ?_;refine wpAny_call (codeAny_mono (key _ _ hc) λr s' P=>?_);obtain⟨af,Z',I',S',⟨rv,v,q,rfl,R'⟩|⟨nm,ea,q,_⟩⟩:=mT ay Rs K8 nd P
     rotate_left
     .exact LP q
     exact Er (lQ q) (⟨_,af,Z',rfl,I',S.trans (S'.sub λi h=>by cases h),R'.since S.old⟩)
  .exact ah h
theorem Rn.big (R:Rn A c n) (I:Inv y own Z s.heap fr):3<s.heap.objs.size:=by
 exact jm R.gd.g λo ac az q=>(ZV (I.base _ _ q.1))
theorem Ef {b:Bi} {d:D} {r:Rv} {a:Value} (hb:b.one=true) (he:dD b [d]=some r) (hh:b.loops=true->A.handled=none) (hs:3<s.heap.objs.size) (zl:∀b,Z b-> ∃o,s.heap.get? b=some o) (ra:cv s.heap Z a d):wpAny (model prog w) A (call (mX b) [a]) (Op Z s r) E s:=by
 cases b with
 |len=>
  rw[Jt]at he;cases hl:A8 d with
  |none=>rw[hl]at he;exact ah he
  |some n=>rw[hl]at he;exact Er (aF he).symm (Ec hl ra)
 |isi t=>cases hb
 |all=>
  cases d<;>first|exact ah he|skip
  refine aQ (Z9 he) λn q=>?_;refine Er q.2.symm ?_
  exact Eg (hh rfl) q.1 ra
 |int=>
  cases d<;>first|exact ah he|skip
  .exact Er (aF he).symm (AW ra)
  .exact AV he ra
 |str=>
  cases d<;>first|exact ah he|skip
  exact D9 he ra
 |tuple=>
  cases d<;>first|exact ah he|skip
  all_goals refine Er (aF he).symm ?_
  .exact uX ra
  .exact uW ra
 |list=>
  cases d<;>first|exact ah he|skip
  all_goals refine Er (aF he).symm ?_
  .exact pw (.inl ra)
  .exact pw (.inr ra)
 |_=>cases hb
theorem jG {b:Bi} {args:List (Bool×Sem Value)} {Q:Value->Shared->Prop} (gK:args.any (·.1)=false)
  (h:wpAny (model prog w) A (evalArgs (mX b) true args []) (λa s₁=>wpAny (model prog w) A (call (mX b) ([]++a.pos) a.kw) Q E s₁) E s):
  wpAny (model prog w) A (callWith pos (mX b) [] args []) Q E s:=by
 cases b with
 |len=>exact Z2 (first:=[]) gK h
 |isi t=>exact Z2 (first:=[]) gK h
 |all=>exact Z2 (first:=[]) gK h
 |int=>exact Y3 (first:=[]) gK h
 |str=>exact Y3 (first:=[]) gK h
 |tuple=>exact Y3 (first:=[]) gK h
 |list=>exact Y3 (first:=[]) gK h
 |_=>exact Z2 (first:=[]) gK h
set_option tactic.hygienic true in
theorem DX {b:Bi} {x:Ex} {p:Pos} (R:Rn A c n) (en:aS A sc env y) (hb:b.one=true) (hg:sc.isG (dB b)) (hc:CE sc e x) (H:SE A c y (eval e env) x):
  SE A c y (eval (.Call (.Name (dB b) p) [e] [] pos) env) (.bi b [x]):=by
 intro own Z s fr out h I;rw[lu]at h
 split at h
 .exact ah h
 .rename_i hl
  refine Call_Name (args:=[e]) rfl (dq R.gd en I hg (dN b) (eP b) (hY b) ?_);have F:F2 (λe x=>CE sc e x/\SE A c y (eval e env) x) [e] [x]:=⟨⟨hc,H⟩,(λi ac h=>by cases h),trivial⟩
  refine jG (by refine Er (hc.star env []) ?_;rfl) (kf F ?_);refine pb (bv:=bC [x]) h .refl (λac h=>h) (λo e=>uG F own Z s fr o e I) λrs av ae aw s₁ vs bg h ay ba S Rs=>?_
  obtain⟨r,rfl⟩:=List.length_eq_one_iff.mp (kb bg:rs.length=1);obtain⟨v,Q⟩:=Rs.one;refine Er Q.1 ?_;cases hr:bO av r with
  |none=>simp only[iI,hr]at h;exact ah h
  |some d=>
   simp only[iI,hr]at h;obtain⟨q,hq,rfl⟩:=fM h;refine YR (Ef hb hq (λh'=>R.hh ?_) (R.big ay) ay.zlv (Q.2.dat ay (nJ hr))) (λv s' p=>p.post ay S) λac az x=>x
   cases hh:c.hd with
   |false=>rfl
   |true=>exact absurd (by refine Er hh (Er h' ?_);rfl) hl
theorem rf (t:Ty):(cy t:Str)∈ig:=by cases t<;>(dsimp only[cy];decide)
theorem uw (t:Ty) :(cy t:Str)≠("__name__" :Str):=by cases t <;> (dsimp only [cy]; decide)
set_option tactic.hygienic true in
theorem DU {t:Ty} {e:Expr} {x:Ex} {p p' pos:Pos} (R:Rn A c n) (en:aS A sc env y) (hg:sc.isG "isinstance") (Lu:sc.isG (cy t)) (hc:CE sc e x) (H:SE A c y (eval e env) x) :
  SE A c y (eval (.Call (.Name "isinstance" p) [e,.Name (cy t) p'] [] pos) env) (.bi (.isi t) [x]):=by
 intro own Z s fr out h I;rw[lu]at h;rw[YW (by simp[Bi.loops])]at h;refine Call_Name (args:=[e,.Name (cy t) p']) rfl (dq R.gd en I hg (dN (.isi t)) (eP (.isi t)) (hY (.isi t)) ?_);refine jG (b:=.isi t) (by rw[hc.star env];rfl) ?_;rw[hc.star env];refine Z1 (Z0 ?_);rw[dw]at h;refine cr (bv:=aG x) (bv':=aG x++[]) (k:=λr fr=>match bO fr r with|some d=>oE fr (dD (.isi t) [d])|none=>none) (out:=out) ?_ .refl bQ (λo e=>H own Z s fr o e I) λr av ae aw s₁ v bg h ay ba S R1=>?_
 .rcases he:ev c x fr with _|⟨_|r,f⟩
  .rw[he]at h;exact h
  .rw[he]at h;exact h
  .rw[he]at h
   refine Eq.trans ?_ h;simp only[BK,fP,iI];cases bO f r with
   |none=>rfl
   |some d=>rfl
 .split at h
  .rename_i d hd
   obtain⟨q,hq,rfl⟩:=fM h;exact Er (aF hq).symm (Z0 (dq R.gd en ay Lu (rf t) (uw t) (B9 t) (ZZ (YR (Ed t (R1.dat ay hd)) (λv s' p=>p.post ay S) λac az x=>x))))
  .exact ah h
theorem kW {x:Str} {Q:Value->Shared->Prop} (gd:Gd c.glob) (en:aS A sc env y) (I:Inv y own Z s.heap fr) (hx:sc.isG x) (hv:mg x=some V\/(mg x=none/\mb x=some V)) (h:Q V s):
  wpAny (model prog w) A (eval (.Name x pos) env) Q E s:=by
 rcases hv with hv|⟨h1,h2⟩
 .exact hH gd en I hx hv h
 .exact Calls.Name_function_global en.kind (en.gl x hx.1) (Calls.loadGlobal_builtin (by refine Er en.glob ?_;exact gd.g.keeps I.base) h1 (by refine Er en.blt ?_;exact gd.b.keeps I.base) h2 h) hx.2
theorem y0 {v:Value} (gd:Gd c.glob) (I:Inv y own Z s.heap fr) (sv:eD s.heap Z (λa=>own a=none) (.exc k) v):∃a o C,v = .ref a/\s.heap.get? a=some o/\(o.cls = .ref C/\o.dict=none/\ ∃vs,o.data = .fields vs)/\mg k=some (.ref C):=by
 refine oI sv λa o C m sv=>?_;refine Er sv.1 ?_;have za:=sv.2.1;have e:=sv.2.2.1;have hc:=sv.2.2.2.1;have zm:=sv.2.2.2.2.1;have hn:=sv.2.2.2.2.2.1;have hm:=sv.2.2.2.2.2.2
 refine⟨a,o,C,rfl,e,hc,?_⟩;obtain⟨o',Kb,Kc,qX,di,f5,CJ⟩:=gd.g.keeps I.base;refine jm hn λo es ep hn=>?_
 rw[hn.1]at qX;obtain rfl:=aF qX;have di:=hn.2.1▸di;cases di;rw[<- hn.2.2.2,CJ]at hm;exact hm
theorem vI {no:List Str} {v:Value} {b:Bool} (gd:Gd c.glob) (I:Inv y own Z s.heap fr) (ha:∀k C,mg k=some (.ref C)->(k∈yes->fq B C V true)/\(k∈no->fq B C V false)) (hb:(b=true/\k∈yes)\/(b=false/\k∈no))
  (sv:eD s.heap Z (λa=>own a=none) (.exc k) v):∃a o C,v = .ref a/\s.heap.get? a=some o/\(o.cls = .ref C/\o.dict=none/\ ∃vs,o.data = .fields vs)/\fq B C V b:=by
 refine jm (y0 gd I sv) λa o C q=>?_;refine Er q.1 ?_
 refine⟨a,o,C,rfl,q.2.1,q.2.2.1,?_⟩
 rcases hb with⟨rfl,hb⟩|⟨rfl,hb⟩
 .exact(ha k C q.2.2.2).1 hb
 .exact(ha k C q.2.2.2).2 hb
theorem tH {no:List Str} {out:Except Str Rv×Fm} (h:(if yes.contains k=true then some (.ok (.fz (.bool true)),fr) else if no.contains k=true then some (.ok (.fz (.bool false)),fr) else none)=some out):∃b,((b=true/\k∈yes)\/(b=false/\k∈no))/\out=(.ok (.fz (.bool b)),fr):=by
 by_cases q:yes.contains k=true
 .rw[YV q]at h;exact⟨true,.inl ⟨rfl,contains_iff_mem.mp q⟩,(aF h).symm⟩
 .rw[YW q]at h
  by_cases q:no.contains k=true
  .rw[YV q]at h;exact⟨false,.inr ⟨rfl,contains_iff_mem.mp q⟩,(aF h).symm⟩
  .rw[YW q]at h;exact ah h
set_option tactic.hygienic true in
theorem DT {x cn:Str} {i:Nat} {yes no:List Str} {p p1 p2 pos:Pos} (R:Rn A c n) (en:aS A sc env y) (hg:sc.isG "isinstance") (hx:sc.isV x i) (hc:sc.isG cn) (hs:tb.sub.lookup cn = some (yes,no)) :
  SE A c y (eval (.Call (.Name "isinstance" p) [.Name x p1,.Name cn p2] [] pos) env) (.isx i yes no):=by
 intro own Z s fr out h I;rw[sr]at h;refine aM λG g=>?_
 refine aQ (R.gd.ask cn yes no hs) λV z=>?_
 split at h
 .refine g ?_
  rename_i k hk;obtain⟨l,v,hl,hr,sv⟩:=I.at' i _ hk (by intro q;cases q);refine aQ (tH h) λb u=>?_;refine Er u.2 ?_
  refine jm (vI R.gd I z.2 u.1 sv) λa o C Q=>?_;obtain rfl:=Q.1
  refine Call_Name (args:=[.Name x p1,.Name cn p2]) rfl (dq R.gd en I hg (dN (.isi .int)) (eP (.isi .int)) (hY (.isi .int)) ?_);refine jG (b:=.isi .int) rfl ?_;refine Z1 (Z0 (dn en hx hl hr ?_));exact Z0 (kW R.gd en I hc z.1 (ZZ ((Q.2.2.2 prog w A _ s a o I.base Q.2.1 Q.2.2.1).2 _ λtk=>.val (s':= {s with toks:=tk}) I (aY .refl) (.bool b))))
 .refine g ?_
  exact ah h
theorem Ay {d:D} (h:fr[i]? = some (.own d)) (r:Rv):bO (fr.set i (.fz d)) r=bO fr r:=by
 cases r with
 |fz d=>rfl
 |own d=>rfl
 |pl p=>
  cases p with
  |var j=>
   simp only[bO,w6]
   by_cases q:i=j
   .subst q;exact Er (List.getElem?_set_self ((List.getElem?_eq_some_iff.mp h).1)) (Er h rfl)
   .exact Er (List.getElem?_set_ne q) rfl
set_option tactic.hygienic true in
theorem kA {k:Expr} {z:Ex} {r':Rv} (ce:CE sc k z) (hs:aR k=true) (h:ev c z fr=some (.ok r',av)) (r:Rv):bO av r=bO fr r:=by
 cases ce.sx hs with
 |lit _=>obtain⟨rfl,rfl⟩:=rG h;rfl
 |var _=>
  rw[lr]at h
  split at h
  .cases h;rfl
  .rename_i hd;obtain⟨rfl,rfl⟩:=rG h;exact Ay hd r
  .exact ah h
 |pl _=>
  rw[qw]at h
  split at h
  .obtain⟨rfl,rfl⟩:=rG h;rfl
  .exact ah h
 |gl _=>
  rw[qy]at h
  split at h
  .cases h;rfl
  .exact ah h
theorem oZ {k:Expr} {z:Ex} (ce:CE sc k z) (hs:aR k=true) (h:ev c z fr=some (.error nm,av)):False:=by
 cases ce.sx hs with
 |lit _=>cases h
 |var _=>
  rw[lr]at h
  split at h<;>cases h
 |pl _=>
  rw[qw]at h
  split at h<;>cases h
 |gl _=>
  rw[qy]at h
  split at h<;>cases h
theorem fi {a:Expr} (h:aR a=true):attributeBase a nm env (eval a env)=eval a env:=by
 cases a<;>first|rfl|cases h
def JJ (A:Around) (nm:Str) (b:Bi) :Prop:= ∀(d e:D) (r:Rv),dD b [d,e] = some r→ ∃T id,PlainAttrs T∧PySem.Slot T nm id∧typeOf (.builtin id) = pure (.type "method_descriptor")∧(∀(Z:Addr→Prop) (s:Shared) (v:Value),cv s.heap Z v d→s.TypeIs v T∧ ∀a,v = .ref a→ ∃ob,s.heap.get? a = some ob∧ob.dict = none)∧
   ∀(Z:Addr->Prop) (s:Shared) (v v':Value) (E:Value->Shared->Prop),cv s.heap Z v d->cv s.heap Z v' e->wpAny (model prog w) A (call (.builtin id) [v,v']) (Op Z s r) E s
theorem oz {b:Bi} {x z:Ex} {out:Except Str Rv×Fm} (h:ev c (.bi b [x,z]) fr=some out) (hb:b.loops=false):
  aT (ev c x fr) (λr fr=>aT (ev c z fr) λr' fr=>match bO fr r,bO fr r' with|some d,some e=>oE fr (dD b [d,e])|_,_=>none)=some out:=by
 rw[lu,hb,Bool.and_false,YW Z6,dw]at h
 rcases he:ev c x fr with _|⟨_|r,f⟩
 .rw[he]at h;exact h
 .rw[he]at h;exact h
 .rw[he]at h
  show aT (ev c z f) _=some out
  have h2:ex (k:=⟨λrs fr=>match iI fr rs with|some ds=>oE fr (dD b ds)|none=>none⟩) (ex (k:=⟨λrs fr=>some (.ok (r::rs),fr)⟩) (lq c [z] f))=some out:=h;rw[dw]at h2
  rcases hz:ev c z f with _|⟨_|r',f'⟩
  .rw[hz]at h2;exact h2
  .rw[hz]at h2;exact h2
  .rw[hz]at h2
   have h3:(match iI f' [r,r']with|some ds=>oE f' (dD b ds)|none=>none)=some out:=h2;simp only[iI]at h3;show(match bO f' r,bO f' r' with|some d,some e=>oE f' (dD b [d,e])|_,_=>none)=some out
   cases h4:bO f' r with
   |none=>have h3:=h4▸h3;exact h3
   |some d=>
    have h3:=h4▸h3;cases h5:bO f' r' with
    |none=>have h3:=h5▸h3;exact h3
    |some e=>rw[h5]at h3;exact h3
set_option tactic.hygienic true in
theorem tr {a k:Expr} {x z:Ex} {b:Bi} (ha:aR a=true) (hk:aR k=true) (hl:(aN.endLine==pos.line)=true) (hb:b.loops=false)
  (F:F2 (λe x=>CE sc e x/\SE A c y (eval e env) x) [a,k] [x,z]) (op:JJ A nm b):
  SE A c y (eval (.Call (.Attribute a nm aN) [k] [] pos) env) (.bi b [x,z]):=by
 intro own Z s fr out h I;have h:=oz h hb;refine wpAny_Call_method1_late (fi ha) hl (by refine Er (F.2.2.1.1.star env []) ?_;rfl) ?_;refine cr (bv:=aG x) (bv':=aG x++(aG z++[])) h .refl bQ (λo e=>F.1.2 own Z s fr o e I) λr av ae aw s₁ v bg h ay ba S R1=>?_
 rcases aX h with⟨e,f,hm,_⟩|⟨r',an,hm,h2⟩
 .exact(oZ F.2.2.1.1 hk hm).elim
 .split at h2
  .rename_i d e hd he
   obtain⟨q,hq,rfl⟩:=fM h2;refine fW (op d e q hq) λT id Q=>?_
   rw[kA F.2.2.1.1 hk hm]at hd;have U:=Q.2.2.2.1 aw s₁ v (R1.dat ay hd);refine⟨T,id,Q.1,Q.2.1,Q.2.2.1,U.1,U.2,Z2 (first:=[v]) rfl (Z1 (Z0 ?_))⟩;refine cr (bv:=aG z) h S (λi h=>de i (bQ i h)) (λo e=>F.2.2.1.2 ae aw s₁ av o e ay) λMt ff aj aI aA v' jC h3 aC aU S' R'=>?_
   rw[hm]at jC;have u:=rG jC;obtain rfl:=u.1;obtain rfl:=u.2;have R2:=aU.rv ay (dZ bg (λi hi hj=>F.2.1 i hi (bQ i hj))) R1;exact ZZ (YR (Q.2.2.2.2 aI aA v v' _ (R2.dat aC (by rw[kA F.2.2.1.1 hk hm];exact hd)) (R'.dat aC he)) (λv s' p=>p.post aC S') λac az x=>x)
  .exact ah h2
theorem A3:JJ A "get" .dget:=by
 intro d e r h;cases d<;>first|exact ah h|skip
 cases e<;>first|exact ah h|skip
 refine Er (aF h).symm ?_;refine ⟨"dict","dict.get",PySem.F.plainAttrs_dict,PySem.F.slot_dict_get,PySem.F.type_dict_get,fun Z s v r=>?_,fun Z s v v' E r r'=>AX r r'⟩;obtain ⟨l,kv,rfl,hd,hn,R⟩:=r.dict;exact ⟨hd.2.typeIs,hd.2.mapOf.noDict⟩
theorem u6:JJ A "count" .count:=by
 intro d e r h;cases d<;>first|exact ah h|skip
 cases e<;>first|exact ah h|skip
 refine aQ (Z9 h) λbs q=>?_;refine Er q.2.symm ?_;have hb:=q.1
 refine ⟨"list","list.count",PySem.F.plainAttrs_list,PySem.F.slot_list_count,PySem.F.type_list_count,fun Z s v r=>?_,fun Z s v v' E r r'=>xm hb r r'⟩;obtain ⟨l,vs,n,rfl,hl,hn,R⟩:=r.list;exact ⟨⟨_,hl,rfl⟩,fun a e=>by cases e; exact ⟨_,hl,rfl⟩⟩
theorem u5:JJ A "split" .split:=by
 intro d e r h;cases d<;>first|exact ah h|skip
 cases e<;>first|exact ah h|skip
 refine ⟨"str","str.split",PySem.F.plainAttrs_str,PySem.F.slot_str_split,PySem.F.type_str_split,fun Z s v r=>?_,fun Z s v v' E r r'=>xj h r r'⟩;obtain ⟨t,rfl,_,_⟩:=r.str;exact ⟨YT _ _ _,fun a e=>by cases e⟩
theorem xU:JJ A "partition" .part:=by
 intro d e r h;cases d<;>first|exact ah h|skip
 cases e<;>first|exact ah h|skip
 refine ⟨"str","str.partition",PySem.F.plainAttrs_str,PySem.F.slot_str_partition,PySem.F.type_str_partition,fun Z s v r=>?_,fun Z s v v' E r r'=>AT h r r'⟩;obtain ⟨t,rfl,_,_⟩:=r.str;exact ⟨YT _ _ _,fun a e=>by cases e⟩
inductive JK (x:Str) (z:Ex):Prop
 |mk:z = .lit (.str x)->PyData.strOk x=true->JK x z
theorem Cb {b:Bi} {x:Ex} {out:Except Str Rv×Fm} (h:ev c (.bi b [x]) fr=some out) (hb:b.loops=false):
  aT (ev c x fr) (λr fr=>match bO fr r with|some d=>oE fr (dD b [d])|none=>none)=some out:=by
 rw[lu,hb,Bool.and_false,YW Z6,dw]at h
 rcases he:ev c x fr with _|⟨_|r,f⟩
 .rw[he]at h;exact h
 .rw[he]at h;exact h
 .rw[he]at h
  have h3:(match iI f [r]with|some ds=>oE f (dD b ds)|none=>none)=some out:=h;simp only[iI]at h3;show(match bO f r with|some d=>oE f (dD b [d])|none=>none)=some out
  cases h4:bO f r with
  |none=>have h3:=h4▸h3;exact h3
  |some d=>have h3:=h4▸h3;exact h3
theorem GU {a:Expr} {x:Ex} (ha:aR a=true) (hl:(aN.endLine==pos.line)=true) (H:SE A c y (eval a env) x):
  SE A c y (eval (.Call (.Attribute a "upper" aN) [] [] pos) env) (.bi .up [x]):=by
 intro own Z s fr out h I;have h:=Cb h rfl;refine wpAny_Call_method0_late (fi ha) hl ?_;refine cr (bv:=aG x) (bv':=aG x++[]) h .refl bQ (λo e=>H own Z s fr o e I) λr av ae aw s₁ v bg h ay ba S R1=>?_
 cases hd:bO av r with
 |none=>rw[hd]at h;exact ah h
 |some d=>
  rw[hd]at h;obtain⟨q,hq,rfl⟩:=fM h;refine aM λG g=>?_
  cases d<;>first|exact ah hq|skip
  obtain ⟨t,rfl,ok,hn⟩:=id (R1.dat ay hd).str;refine g ?_;refine ⟨"str","str.upper",PySem.F.plainAttrs_str,PySem.F.slot_str_upper,PySem.F.type_str_upper,YT _ _ _,(fun ac e=>nomatch e),Z2 (first:=[.str _ t]) rfl (PyProof.Rows.evalArgs_none ?_)⟩;exact YR (Hk hq (R1.dat ay hd)) (fun v s' p=>p.post ay S) fun ac az x=>x
set_option tactic.hygienic true in
theorem DN {a k:Expr} {x z:Ex} {aN pos lp xW zC p1 p2 p3:Pos} {k1 k2 k3:Nat} (R:Rn A c n) (en:aS A sc env y) (hg:sc.isG "len") (ha:aR a = true) (hk:aR k = true) (hl:(aN.endLine == pos.line) = true)
  (F:F2 (λe x=>CE sc e x/\SE A c y (eval e env) x) [a,k] [x,z]):
  SE A c y (eval (.Call (.Attribute a "rfind" aN) [.Constant (.str ⟨#[10]⟩) k1 p1,.Constant (.int 0) k2 p2,.BinOp (.Call (.Name "len" lp) [k] [] xW) .Sub (.Constant (.int 1) k3 p3) zC] [] pos) env) (.bi .rfl [x,z]):=by
 intro own Z s fr out h I;have h:=oz h rfl;refine wpAny_Call_method_late (fi ha) rfl hl rfl ?_;refine cr (bv:=aG x) (bv':=aG x++(aG z++[])) h .refl bQ (λo e=>F.1.2 own Z s fr o e I) λr av ae aw s₁ v bg h ay ba S R1=>?_
 rcases aX h with⟨e,f,hm,_⟩|⟨r',an,hm,h2⟩
 .exact(oZ F.2.2.1.1 hk hm).elim
 cases hd:bO an r with
 |none=>have h2:=hd▸h2;exact ah h2
 |some d=>
 cases he:bO an r' with
 |none=>have h2:=hd▸h2;rw[he]at h2;exact ah h2
 |some e=>
 rw[hd,he]at h2;obtain⟨q,hq,rfl⟩:=fM h2;refine aM λG g=>?_
 cases d<;>first|exact ah hq|(cases e<;>first|exact ah hq|skip)
 rename_i xs ys;obtain ⟨⟨rfl,h1⟩,rfl⟩:=d9 hq;have D1:=R1.dat ay (by refine Er (kA F.2.2.1.1 hk hm r).symm ?_; exact hd);obtain ⟨t,rfl,ok,hn⟩:=D1.str;refine g ?_;refine ⟨"str","str.rfind",PySem.F.plainAttrs_str,PySem.F.slot_str_rfind,PySem.F.type_str_rfind,YT _ _ _,(fun ac e=>nomatch e),Z2 (first:=[.str _ t]) rfl (Z1 ?_)⟩;refine Z0 (wpAny_Constant_str (k:=k1) (pos:=p1) (Z0 (wpAny_Constant_int (k:=k2) (pos:=p2) (Z0 ?_))));refine wpAny_BinOp (Call_Name (args:=[k]) rfl (dq (s:= {s₁ with toks:=s₁.toks+1+1}) R.gd en ay hg (dN .len) (eP .len) (hY .len) ?_));have F1:F2 (fun e x=>CE sc e x∧SE A c y (eval e env) x) [k] [z]:=⟨F.2.2.1,(fun i ac h=>by cases h),trivial⟩
 refine jG (b:=.len) (by refine Er (F.2.2.1.1.star env []) ?_;rfl) (kf F1 ?_);have Oy:lq c [z] av=some (.ok [r'],an):=by rw[dw];refine Er hm ?_;rfl
 refine YR (uG F1 ae aw {s₁ with toks:=s₁.toks+1+1} av _ Oy ay) (λvs aA p=>?_) λac az x=>x.elim
 obtain⟨rs,aj,aI,q,aC,aU,Rs⟩:=p;obtain rfl:=lQ q;obtain⟨v',U⟩:=Rs.one;refine Er U.1 ?_;obtain⟨t2,rfl,_,hz⟩:=(U.2.dat aC (nJ he)).str;simp only[Sz]at hz;exact P.len_str (by unfold Str.length;omega) (wpAny_Constant_int (k:=k3) (pos:=p3) (sub_int (ZZ (YR (B4 (A:=A) (E:=aV y (aG (.bi .rfl [x,z])) own Z s ((Except.ok (Rv.fz (.int ((xs.cps.size:Int)-1-(eH xs.cps.toList).length-1))):Except Str Rv),an)) (t:=t) (u:=s₁.toks) (a:=s₁.toks+1) (b:=aA.toks+1+1+1) (s:= {aA with toks:=aA.toks+1+1+1+1}) (Q:=Op aI {aA with toks:=aA.toks+1+1+1+1} (.fz (.int ((xs.cps.size:Int)-1-(eH xs.cps.toList).length-1)))) h1 λt' tk=>.int) (λv s' p=>p.post (show Inv y aj aI ({aA with toks:=aA.toks+1+1+1+1}:Shared).heap an from aC) (aY (S.trans ((aY (tk:=s₁.toks+1+1) .refl).trans (aU.sub λi h=>de i h))))) λac az x=>x))))
theorem CE.lits {x:Str} {p:Pos} {z:Ex} (ce:CE sc (.Constant (.str x) kk p) z):JK x z:=by
 cases ce.ci with
 |lit h=>cases h with|str _ ok _=>exact⟨rfl,ok⟩
 |other _ h _=>cases h
theorem AB {x:Str} {p:Pos} {k:Expr} {z z':Ex} (hl:(aN.endLine==pos.line)=true) (F:F2 (λe x=>CE sc e x/\SE A c y (eval e env) x) [.Constant (.str x) kk p,k] [z,z']):
  SE A c y (eval (.Call (.Attribute (.Constant (.str x) kk p) "join" aN) [k] [] pos) env) (.bi .join [z,z']):=by
 intro own Z s fr out h I;have h:=oz h rfl;have Q:=F.1.1.lits;obtain rfl:=Q.1;have ok:=Q.2;refine wpAny_Call_method1_late (fi rfl) hl (by refine Er (F.2.2.1.1.star env []) ?_;rfl) ?_;refine cr (bv:=aG (.lit (.str x))) (bv':=aG (.lit (.str x))++(aG z'++[])) h .refl bQ (λo e=>F.1.2 own Z s fr o e I) λr av ae aw s₁ v bg h ay ba S R1=>?_
 obtain⟨rfl,rfl⟩:=rG bg;cases R1 with
 |str _ t _ _=>
  refine ⟨"str","str.join",PySem.F.plainAttrs_str,PySem.F.slot_str_join,PySem.F.type_str_join,YT _ _ _,(fun ac e=>nomatch e),Z2 (first:=[.str x t]) rfl (Z1 (Z0 ?_))⟩;refine cr (bv:=aG z') h S (fun i h=>de i (bQ i h)) (fun o e=>F.2.2.1.2 ae aw s₁ fr o e ay) fun Mt ff aj aI aA v' jC h3 aC aU S' R'=>?_
  have h3:=h3;cases he:bO ff Mt with
  |none=>have h3:=he▸h3;exact ah h3
  |some e=>
   rw[he]at h3;obtain⟨q,hq,rfl⟩:=fM h3;exact ZZ (YR (AU hq ok (R'.dat aC he)) (λv s' p=>p.post aC S') λac az x=>x)
theorem Az:("set" :Str)∈ig:=by decide
set_option tactic.hygienic true in
theorem uH {a:Expr} {x:Ex} {p p' pos jR:Pos} (R:Rn A c n) (en:aS A sc env y) (hg:sc.isG "len") (Lu:sc.isG "set") (hc:CE sc a x) (H:SE A c y (eval a env) x) :
  SE A c y (eval (.Call (.Name "len" p) [.Call (.Name "set" p') [a] [] jR] [] pos) env) (.bi .lenset [x]):=by
 intro own Z s fr out h I;rw[lu]at h
 split at h
 .exact ah h
 .rename_i hl
  have gL:c.hd=false:=by
   cases hh:c.hd with
   |false=>rfl
   |true=>rw[hh]at hl;exact absurd rfl hl
  refine Call_Name (args:=[.Call (.Name "set" p') [a] [] jR]) rfl (dq R.gd en I hg (dN .len) (eP .len) (hY .len) ?_);refine jG (b:=.len) rfl (Z1 (Z0 ?_));refine Call_Name (args:=[a]) rfl (dq R.gd en I Lu Az (by decide) boot_set ?_);have F:F2 (fun e x=>CE sc e x∧SE A c y (eval e env) x) [a] [x]:=⟨⟨hc,H⟩,(fun i ac h=>by cases h),trivial⟩
  refine Y3 (first:=[]) (by refine Er (hc.star env []) ?_;rfl) (kf F ?_);refine pb (bv:=bC [x]) h .refl (λac h=>h) (λo e=>uG F own Z s fr o e I) λrs av ae aw s₁ vs bg h ay ba S Rs=>?_
  obtain⟨r,rfl⟩:=List.length_eq_one_iff.mp (kb bg:rs.length=1);obtain⟨v,Q⟩:=Rs.one;refine Er Q.1 ?_;have Rq:=Q.2;cases hr:bO av r with
  |none=>simp only[iI,hr]at h;exact ah h
  |some d=>
   simp only[iI,hr]at h;obtain⟨q,hq,rfl⟩:=fM h;refine YR (uY (R.hh gL) hq (Rq.dat ay (nJ hr))) (λv s' p=>ZZ ?_) λac az x=>x
   exact YR p (λv s' p=>p.post ay S) λac az x=>x
theorem wR (R:Rn A c n):SE A c y (eval (.Dict [] [] pos) env) (.bi .dict0 []):=by
 intro own Z s fr out h I;have h:oE fr (some (.own (.dict [])))=some out:=by
  rw[lu,show(Bi.dict0).loops=false from rfl,Bool.and_false,YW Z6]at h;exact h
 obtain⟨q,hq,rfl⟩:=fM h;refine Er (aF hq).symm ?_;refine wpAny_Dict_empty ?_;refine jm R.gd.g λo ac az Q=>?_
 have hs:=ZV (I.base _ _ Q.1);refine Op.post I .refl ⟨_,s.toks,rfl,pK _,.own (yK _) (.dict (kvs:=[]) ⟨?_,.new _⟩ (Y8 _) .nil)⟩;rw[beq_eq_false_iff_ne];intro e;rw[e]at hs;exact absurd hs (by decide)
end
def dE (y:Lay) (own:Addr->Option Nat) (Z:Addr->Prop) (h₀ h:Heap) (b:Addr):Prop:=h₀.get? b=none/\ ¬y.wr own b/\ ¬y.F b/\ ¬Z b/\ ∃o,h.get? b=some o
section
variable {y:Lay} {bv bv':List Nat} {own af tw:Addr->Option Nat} {Z Z' m4:Addr->Prop} {s s' d4:Shared} {h h' h₀:Heap} {fr b4:Fm} {X:Addr->Prop}
theorem Step.loose (x:Step y bv own Z s af Z' s') {b:Addr} (l:dE y own Z h₀ s.heap b):dE y af Z' h₀ s'.heap b/\ ∀o,s.heap.get? b=some o->s'.heap.get? b=some o:=by
 obtain⟨n0,nw,nf,nz,o,ho⟩:=l;refine⟨⟨n0,λw=>?_,nf,λz=>?_,x.ext.live b o ho⟩,λo e=>x.ext.keep b o e nw nf⟩
 .rcases m9 x.on b w with w|w
  .exact nw w
  .rw[w]at ho;exact ah ho
 .rcases x.zn b z with z|z|z
  .exact nz z
  .exact nw (.inl z)
  .rw[z]at ho;exact ah ho
theorem Inv.other (I:Inv y own Z h fr) (hx:∀b,X b-> ¬y.wr own b/\ ¬y.F b/\ ¬Z b) (k:∀b o, ¬X b->h.get? b=some o->h'.get? b=some o):Inv y own Z h' fr where
 wf:=I.wf
 base:=λa o e=>k a o (λq=>(hx a q).2.2 (I.zb a o e)) (I.base a o e)
 zb:=I.zb
 zo:=I.zo
 zl:=I.zl
 ol:=I.ol
 zL:=I.zL
 oL:=I.oL
 zF:=I.zF
 oF:=I.oF
 zlv:=λa z=>let ⟨o,e⟩:=I.zlv a z;⟨o,k a o (λq=>(hx a q).2.2 z) e⟩
 olv:=λa z=>let ⟨o,e⟩:=I.olv a z;⟨o,k a o (λq=>(hx a q).1 (.inl z)) e⟩
 flv:=λa z=>let ⟨o,e,nr⟩:=I.flv a z;⟨o,k a o (λq=>(hx a q).2.1 z) e,nr⟩
 ok:=λi l e=>(I.ok i l e).keeps λo=>k _ o λq=>(hx _ q).1 (.inr (.inr ⟨i,l,e,rfl⟩))
 nsL:=let ⟨m,hn⟩:=I.nsL;⟨m,hn.at' λo=>k _ o λq=>(hx _ q).1 (.inr (.inl rfl))⟩
 at':=λi sl e n=>let ⟨l,v,hl,r,q⟩:=I.at' i sl e n;⟨l,v,hl,r.keeps λo=>k _ o λq=>(hx _ q).1 (.inr (.inr ⟨i,l,hl,rfl⟩)),
  q.mono (λa o z=>k a o λq=>(hx a q).2.2 z) (λac z=>z) (λac z=>z) λa o z=>k a o λq=>(hx a q).1 (.inl (by refine Er z ?_;exact λn=>by cases n))⟩
theorem Step.other (x:Step y bv own Z s af Z' s') (hx:∀b,X b->s.heap.get? b=none/\ ¬y.wr af b) (k:∀b o, ¬X b->s'.heap.get? b=some o->h'.get? b=some o):Step y bv own Z s af Z' {s' with heap:=h',toks:=tk}:=by
 have nx:∀a o,s.heap.get? a=some o-> ¬X a:=λa o e q=>by rw[(hx a q).1]at e;exact ah e
 refine⟨?_,⟨λa o e nw nf=>k a o (nx a o e) (x.ext.keep a o e nw nf),λa o e=>?_,λa o f e=>?_⟩,x.zm,x.zn,x.on,λi l v n hl r=>(x.bind i l v n hl r).keeps λo=>k _ o λq=>(hx _ q).2 (.inr (.inr ⟨i,l,hl,rfl⟩))⟩
 .refine fW x.sh λh Ku Q=>?_;subst Q;exact⟨_,_,rfl⟩
 .obtain⟨o',e'⟩:=x.ext.live a o e;exact⟨o',k a o' (nx a o e) e'⟩
 .exact aQ (x.ext.fram a o f e) λsl e'=>(⟨sl,k a _ (nx a o e) e'⟩)
theorem dE.other {b:Addr} (l:dE y own Z h₀ h b) (k:∃o,h'.get? b=some o):dE y own Z h₀ h' b:=⟨l.1,l.2.1,l.2.2.1,l.2.2.2.1,k⟩
end
theorem kr {k:Nat} (h:k<=n):n+1-(k+1)<n+1-k:=Nat.sub_lt_sub_left (Nat.lt_succ_of_le h) (lt_succ_self k)
noncomputable def yL:List String:=["enumerate","zip","dict_itemiterator","dict_reverseitemiterator","odict_iterator","itertools.zip_longest","itertools.pairwise"]
theorem ND {s:Shared} {It:Addr} {v:Value} {o:Obj} {T:String} {Q:Unit->Shared->Prop} (he:s.heap.get? It=some o) (hc:o.cls = .type T) (hT:yL.contains T=false) (h:Q () s):wpAny (model prog w) A (letOwnedTupleGo g (.ref It) v) Q E s:=by
 have key:wpAny (model prog w) A (do
   let (.ref r,.ref a):=(Value.ref It,v)|return
   let o <- load r
   match o.cls,o.data with
   |.type n,.fields vs=>
    if ["enumerate","zip","dict_itemiterator","dict_reverseitemiterator","odict_iterator","itertools.zip_longest","itertools.pairwise"].contains n && vs[0]? == some (rawInt a) then
     rule "for.unpacks-the-owned-tuple"
     updateField r 0 .none
   |_,_=>pure ()) Q E s:=by
  cases v with
  |ref a=>
   refine YS (wpAny_load he ?_);obtain⟨c,d,dt,sl⟩:=o;cases hc;cases dt with
   |fields vs=>
    dsimp only;exact Er (YW (by refine Er (show (["enumerate","zip","dict_itemiterator","dict_reverseitemiterator","odict_iterator","itertools.zip_longest","itertools.pairwise"].contains T) = false from hT) ?_; rw [Bool.false_and]; exact Z6)) (YO h)
   |_=>exact YO h
  |_=>exact YO h
 cases g with
 |Tuple es k p=>exact key
 |List es p=>exact key
 |_=>exact YO h
structure Wk (A:Around) (I:Addr) (items:List D) (fp wr:List Addr) (P:Nat->Value->Prop) (St:Nat->Heap->Prop):Prop extends Walks prog w A I fp wr items.length P St where
 lv:∀i h,St i h-> ∀b∈fp, ∃o,h.get? b=some o
 cls:∀i h,St i h-> ∃o T,h.get? I=some o/\o.cls = .type T/\yL.contains T=false
structure iv (y:Lay) (items:List D) (fp wr:List Addr) (P:Nat->Value->Prop) (St:Nat->Heap->Prop) (h₀:Heap) (own:Addr->Option Nat) (Z:Addr->Prop) (h:Heap) (k:Nat):Prop where
 st:St k h
 fp:∀b∈fp,Z b\/dE y own Z h₀ h b
 wr:∀b∈wr,dE y own Z h₀ h b
 it:∀i v,i<items.length->P i v-> ∃d,items[i]? = some d/\bS h Z v d
section
variable {A:Around} {y:Lay} {bv bv':List Nat} {own af tw:Addr->Option Nat} {Z Z' m4:Addr->Prop} {s s' d4:Shared} {h h' h₀:Heap} {fr b4:Fm} {I:Addr} {items:List D} {fp wr:List Addr} {P:Nat->Value->Prop} {St:Nat->Heap->Prop} {k:Nat}
theorem iv.step (W:Wk A I items fp wr P St) (x:iv y items fp wr P St h₀ own Z s.heap k) (i:Inv y own Z s.heap fr) (S:Step y bv own Z s af Z' s'):iv y items fp wr P St h₀ af Z' s'.heap k where
 st:=W.frame k _ _ x.st λb hb o e=>(x.fp b hb).elim (λz=>i.keepZ S.ext b o z e) λl=>(S.loose l).2 o e
 fp:=λb hb=>(x.fp b hb).imp (S.zm b) λl=>(S.loose l).1
 wr:=λb hb=>(S.loose (x.wr b hb)).1
 it:=λj v hj p=>let ⟨d,e,r⟩:=x.it j v hj p;⟨d,e,r.mono (i.keepZ S.ext) S.zm⟩
theorem iv.other (W:Wk A I items fp wr P St) (x:iv y items fp wr P St h₀ own Z h k) {X:Addr->Prop} (hx:∀b,X b-> ¬Z b/\b∉fp) (kp:∀b o, ¬X b->h.get? b=some o->h'.get? b=some o):iv y items fp wr P St h₀ own Z h' k where
 st:=W.frame k _ _ x.st λb hb o e=>kp b o (λq=>(hx b q).2 hb) e
 fp:=λb hb=>(x.fp b hb).imp id λl=>l.other (let ⟨o,e⟩:=l.2.2.2.2;⟨o,kp b o (λq=>(hx b q).2 hb) e⟩)
 wr:=λb hb=>(x.wr b hb).other (let ⟨o,e⟩:=(x.wr b hb).2.2.2.2;⟨o,kp b o (λq=>(hx b q).2 (W.sub b hb)) e⟩)
 it:=λj v hj p=>let ⟨d,e,r⟩:=x.it j v hj p;⟨d,e,r.mono (λa o z=>kp a o λq=>(hx a q).1 z) λac z=>z⟩
theorem mD {d:D} {Q:Option Value->Shared->Prop} {Qv:Value->Shared->Prop} (W:Wk A I items fp wr P St) (x:iv y items fp wr P St s.heap af Z' s'.heap k) (i:Inv y af Z' s'.heap fr) (S:Step y bv own Z s af Z' s') (hd:items[k]? = some d)
  (hQ:∀v s₁,wpAny (model prog w) A (letOwnedTupleGo g (.ref I) v) (λac aA=>Qv v aA) E s₁->Q (some v) s₁)
  (h:∀v d4 m4,(∀a,Z' a->m4 a)->bS d4.heap m4 v d->iv y items fp wr P St s.heap af m4 d4.heap (k+1)->Inv y af m4 d4.heap fr->Step y bv own Z s af m4 d4->(∀b,dE y af Z' s.heap s'.heap b->b∉wr->dE y af m4 s.heap d4.heap b)->(∀b o,b∉wr->s'.heap.get? b=some o->d4.heap.get? b=some o)->Qv v d4):
  wpAny (model prog w) A (pyNext (.ref I)) Q E s':=by
 have hk:=(List.getElem?_eq_some_iff.mp hd).1;refine W.item k s' Q E hk x.st λv h' tk hm z4 kp=>?_
 .have hX:∀b,b∈wr-> ¬y.wr af b/\ ¬y.F b/\ ¬Z' b:=λb hb=>⟨(x.wr b hb).2.1,(x.wr b hb).2.2.1,(x.wr b hb).2.2.2.1⟩
  have kz:∀a o,Z' a->s'.heap.get? a=some o->h'.get? a=some o:=λa o z e=>kp a o (λq=>(hX a q).2.2 z) e
  have S1:Step y bv own Z s af Z' {s' with heap:=h',toks:=tk}:=S.other (X:=λb=>b∈wr) (λb hb=>⟨(x.wr b hb).1,(hX b hb).1⟩) kp;obtain⟨d',e,r⟩:=x.it k v hk hm;rw[hd]at e;obtain rfl:=aF e;have r1:=r.mono kz λac z=>z
  have N0:∀j m,j<items.length->P j m-> ∃d,items[j]? = some d/\bS h' Z' m d:=λj m hj p=>let ⟨d,e,r⟩:=x.it j m hj p;⟨d,e,r.mono kz λac z=>z⟩
  obtain⟨o,T,e,c,n⟩:=W.cls _ _ z4;exact hQ v _ (ND (s:= {s' with heap:=h',toks:=tk}) e c n (h v {s' with heap:=h',toks:=tk} Z' (λac z=>z) r1 ⟨z4,λb hb=>(x.fp b hb).imp id λl=>l.other ((W.lv _ _ z4) b hb),λb hb=>(x.wr b hb).other ((W.lv _ _ z4) b (W.sub b hb)),N0⟩ (i.other hX kp) S1 (λb l n=>l.other (let ⟨o,e⟩:=l.2.2.2.2;⟨o,kp b o n e⟩)) kp))
theorem mE {Q:Option Value->Shared->Prop} {E:Value->Shared->Prop} (W:Wk A I items fp wr P St) (x:iv y items fp wr P St s.heap af Z' s'.heap items.length) (i:Inv y af Z' s'.heap fr) (S:Step y bv own Z s af Z' s')
  (h:∀d4,Inv y af Z' d4.heap fr->Step y bv own Z s af Z' d4->(∀b o,b∉wr->s'.heap.get? b=some o->d4.heap.get? b=some o)->(∃h' tk,d4={s' with heap:=h',toks:=tk})->Q none d4):
  wpAny (model prog w) A (pyNext (.ref I)) Q E s':=by
 refine W.done s' Q E x.st λh' tk kp=>?_
 have hX:∀b,b∈wr-> ¬y.wr af b/\ ¬y.F b/\ ¬Z' b:=λb hb=>⟨(x.wr b hb).2.1,(x.wr b hb).2.2.1,(x.wr b hb).2.2.2.1⟩
 exact h {s' with heap:=h',toks:=tk} (i.other hX kp) (S.other (X:=λb=>b∈wr) (λb hb=>⟨(x.wr b hb).1,(hX b hb).1⟩) kp) kp ⟨_,_,rfl⟩
end
inductive uo (A:Around) (y:Lay) (it:iU) (bv:List Nat) (own:Addr->Option Nat) (Z:Addr->Prop) (s:Shared) (out:Except Str (List Rv)×Fm) (Gc:Value) (s':Shared):Prop
 |mk (rs:List Rv) (ds items:List D) (af:Addr->Option Nat) (Z':Addr->Prop) (I:Addr) (fp wr:List Addr) (P:Nat->Value->Prop) (St:Nat->Heap->Prop):out.1 = .ok rs->fv rs=some ds->cj it ds=some items->items.length<=Sz->Gc = .ref I->Inv y af Z' s'.heap out.2->Step y bv own Z s af Z' s'->Wk A I items fp wr P St->iv y items fp wr P St s.heap af Z' s'.heap 0->uo A y it bv own Z s out Gc s'
def SI (A:Around) (c:dj) (y:Lay) (m:Sem Value) (it:iU) (bN:List Ex):Prop:= ∀(own:Addr->Option Nat) (Z:Addr->Prop) (s:Shared) (fr:Fm) (out:Except Str (List Rv)×Fm),lq c bN fr=some out->
 (∀rs,out.1 = .ok rs-> ∃ds items,fv rs=some ds/\cj it ds=some items)->c.hd=false->Inv y own Z s.heap fr->
 wpAny (model prog w) A m (λx s₁=>wpAny (model prog w) A (pyIter x) (uo A y it (bC bN) own Z s out) (aV y (bC bN) own Z s out) s₁) (aV y (bC bN) own Z s out) s
section
variable {A:Around} {c:dj} {n:Nat} {env:Env} {sc:Sc} {y:Lay}
 {bv bv':List Nat} {own ae:Addr->Option Nat} {Z aw:Addr->Prop} {s s₁:Shared} {fr av:Fm}
theorem t5 {x:Ex} {out:Except Str (List Rv)×Fm} (h:lq c [x] fr=some out):aT (ev c x fr) (λr fr=>some (.ok [r],fr))=some out:=by
 rw[dw]at h
 rcases he:ev c x fr with _|⟨_|r,f⟩
 .rw[he]at h;exact h
 .rw[he]at h;exact h
 .rw[he]at h;exact h
theorem nc {o:Obj} {items:List D} {fp:List Addr} {P:Nat->Value->Prop} {St:Nat->Heap->Prop} (I:Inv y ae aw s₁.heap fr) (S:Step y bv own Z s ae aw s₁) (he:(s₁.heap.push o).get? s₁.heap.objs.size=some o) (z4:St 0 (s₁.heap.push o))
  (Ot:∀b∈fp,b=s₁.heap.objs.size\/aw b) (iK:∀i v,i<items.length->P i v-> ∃d,items[i]? = some d/\bS s₁.heap aw v d):
  iv y items fp [s₁.heap.objs.size] P St s.heap ae aw (s₁.heap.push o) 0:=by
 have e:=yK s₁.heap;have lo:dE y ae aw s.heap (s₁.heap.push o) s₁.heap.objs.size:=⟨S.old _ e,(I.fresh e).1,(I.fresh e).2.1,(I.fresh e).2.2,o,he⟩
 refine⟨z4,λb hb=>(Ot b hb).elim (λq=>.inr (q▸lo)) .inl,λb hb=>?_,λi m hi p=>?_⟩
 .cases hb with
  |head=>exact lo
  |tail _ h=>cases h
 .obtain⟨d,Q⟩:=iK i m hi p
  exact⟨d,Q.1,Q.2.mono (λa o ac=>pK _ a o) λac z=>z⟩
theorem DG {x:Ex} (R:Rn A c n) (H:SE A c y (eval e env) x):SI A c y (eval e env) .seq [x]:=by
 intro own Z s fr out h hv gL I;have h:=t5 h;refine cr (bv:=aG x) (bv':=aG x++[]) h .refl bQ (λo e=>H own Z s fr o e I) λr av ae aw s₁ v bg h ay ba S R1=>?_
 obtain rfl:=aF h;obtain⟨ds,items,lT,iK⟩:=hv _ rfl;simp only[fv]at lT;cases hr:bU r with
 |none=>rw[hr]at lT;exact ah lT
 |some d=>
  rw[hr]at lT;obtain rfl:=aF lT;obtain⟨aI,aC,aU,iS⟩:=R1.freeze ay S hr;have Gv:∀(o:Obj) (fp:List Addr) (P:Nat->Value->Prop) (St:Nat->Heap->Prop),items.length<=Sz->Wk A s₁.heap.objs.size items fp [s₁.heap.objs.size] P St->iv y items fp [s₁.heap.objs.size] P St s.heap ae aI (s₁.heap.push o) 0->
    uo A y .seq (aG x++[]) own Z s (.ok [r],av) (.ref s₁.heap.objs.size) {s₁ with heap:=s₁.heap.push o}:=λo fp P St hl W WA=>
   ⟨[r],[d],items,ae,aI,_,fp,_,P,St,rfl,by simp[fv,hr],iK,hl,rfl,aC.grow (pK o),aU.trans (.grow (tk:=s₁.toks) (pK o)),W,WA⟩
  have lt:∀a o,s₁.heap.get? a=some o->a≠s₁.heap.objs.size:=λa o e q=>by rw[q,yK]at e;exact ah e
  cases d with
  |list xs=>
   cases iK;cases iS with
   |@list a vs _ m za hl hn Rs=>
   refine wpAny_pyIter_list hl.isList (Gv _ _ _ _ (by rw[<- Rs.length];exact hn) ⟨?_,λi h st b hb=>?_,λi h st=>let ⟨o,e,hc,_⟩:=st.1;⟨o,_,e,hc,by decide⟩⟩ (nc (fp:=[s₁.heap.objs.size,a]) (P:=λi v=>vs.toArray[i]? = some v) (St:=λi h=>h.IsListIter s₁.heap.objs.size a i/\h.IsList a vs.toArray) aC aU (ZX _ rfl) ⟨⟨_,ZX _ rfl,rfl,rfl⟩,(IsL.push hl _).isList⟩ (λb hb=>?_) λi v ac p=>?_))
   .have:=Walks.list (prog:=prog) (w:=w) (A:=A) (R.hh gL) s₁.heap.objs.size a (lt _ _ hl) vs.toArray
    rw[show vs.toArray.size=items.length from(Zj ..).trans Rs.length]at this;exact this
   .rcases mem_cons.mp hb with rfl|hb
    .obtain⟨o,J⟩:=st.1;exact⟨o,J.1⟩
    .rw[Zl]at hb;subst hb;obtain⟨o,j⟩:=st.2;exact⟨o,j.1⟩
   .rcases mem_cons.mp hb with rfl|hb
    .exact .inl rfl
    .rw[Zl]at hb;subst hb;exact .inr za
   .exact Rs.getV (by simpa using p)
  |tuple xs=>
   cases iK;cases iS with
   |@tuple a vs _ m za hl hn Rs=>
   refine wpAny_pyIter_tuple (⟨_,hl,rfl,_,rfl⟩) (Gv _ _ _ _ (by rw[<- Rs.length];exact hn) ⟨?_,λi h st b hb=>?_,λi h st=>let ⟨o,e,hc,_⟩:=st.1;⟨o,_,e,hc,by decide⟩⟩ (nc (fp:=[s₁.heap.objs.size,a]) (P:=λi v=>vs.toArray[i]? = some v) (St:=λi h=>h.IsTupleIter s₁.heap.objs.size a i/\h.IsTuple a vs.toArray) aC aU (ZX _ rfl) ⟨⟨_,ZX _ rfl,rfl,rfl⟩,⟨_,pK _ _ _ hl,rfl,_,rfl⟩⟩ (λb hb=>?_) λi v ac p=>?_))
   .have:=Walks.tuple (prog:=prog) (w:=w) (A:=A) (R.hh gL) s₁.heap.objs.size a (lt _ _ hl) vs.toArray
    rw[show vs.toArray.size=items.length from(Zj ..).trans Rs.length]at this;exact this
   .rcases mem_cons.mp hb with rfl|hb
    .obtain⟨o,Q⟩:=st.1;exact⟨o,Q.1⟩
    .rw[Zl]at hb;subst hb;obtain⟨o,U⟩:=st.2;exact⟨o,U.1⟩
   .rcases mem_cons.mp hb with rfl|hb
    .exact .inl rfl
    .rw[Zl]at hb;subst hb;exact .inr za
   .exact Rs.getV (by simpa using p)
  |str x=>
   obtain rfl:=aF iK;cases iS with
   |str _ t hx hz=>
   have key:∀(o:Obj) (T:String),yL.contains T=false->(∀A':Around,A'.handled=none->Walks prog w A' s₁.heap.objs.size [s₁.heap.objs.size] [s₁.heap.objs.size] x.cps.size (SignAt x) (λi h=>h.IsStrIter s₁.heap.objs.size T x t i))->(s₁.heap.push o).IsStrIter s₁.heap.objs.size T x t 0->(s₁.heap.push o).get? s₁.heap.objs.size=some o->
     uo A y .seq (aG _++[]) own Z s (.ok [r],av) (.ref s₁.heap.objs.size) {s₁ with heap:=s₁.heap.push o}:=λo T hT W st he=>by
    refine Gv o _ _ _ (by rw[ZB];refine Er Z8 ?_;exact hz) ⟨?_,λi h st b hb=>?_,λi h st=>let ⟨o,e,hc,_⟩:=st;⟨o,_,e,hc,hT⟩⟩ (nc (fp:=[s₁.heap.objs.size]) (P:=SignAt x) (St:=λi h=>h.IsStrIter s₁.heap.objs.size T x t i) aC aU he st (λb hb=>.inl (by rwa [Zl]at hb)) λi v ac p=>?_)
    .have:=W A (R.hh gL)
     rw[show x.cps.size=(x.cps.toList.map λc=>str ⟨#[c]⟩).length from by simp]at this;exact this
    .rw[Zl]at hb;subst hb;exact aQ st λo st=>(⟨o,st.1⟩)
    .obtain⟨c,u,hc,rfl⟩:=p
     refine⟨.str ⟨#[c]⟩,by refine Er (ZF) (Er (Array.getElem?_toList) (Er hc ?_));rfl,.str _ u ?_ (by show 1<=Sz;decide)⟩;unfold PyData.strOk at hx ⊢;rw[Array.all_eq_true']at hx ⊢;intro z MR;rw[show(⟨#[c]⟩:Str).cps = #[c] from rfl,Array.mem_singleton]at MR;subst MR;exact hx _ (Array.mem_of_getElem? hc)
   cases ha:x.cps.all (· < 128)
   .exact wpAny_pyIter_wide ha (key _ _ (by decide) (λA' hA=>Walks.strWide hA _ x t) ⟨_,ZX _ rfl,rfl,rfl⟩ (ZX _ rfl))
   .exact wpAny_pyIter_ascii ha (key _ _ (by decide) (λA' hA=>Walks.strAscii hA _ x t) ⟨_,ZX _ rfl,rfl,rfl⟩ (ZX _ rfl))
  |none=>exact ah iK
  |bool b=>exact ah iK
  |int i=>exact ah iK
  |dict kvs=>exact ah iK
set_option tactic.hygienic true in
theorem wO {e:Expr} {x:Ex} {p pos:Pos} (R:Rn A c n) (en:aS A sc env y) (hg:sc.isG "range") (hc:CE sc e x) (H:SE A c y (eval e env) x) :SI A c y (eval (.Call (.Name "range" p) [e] [] pos) env) .range [x]:=by
 intro own Z s fr out h hv gL I;have h:=t5 h;refine Call_Name (args:=[e]) rfl (dq R.gd en I hg (by decide) (by decide) boot_range ?_);refine Y3 (first:=[]) (by refine Er (hc.star env []) ?_;rfl) ?_;refine Er (hc.star env []) ?_;refine Z1 (Z0 ?_);refine cr (bv:=aG x) (bv':=aG x++[]) h .refl bQ (λo e=>H own Z s fr o e I) λr av ae aw s₁ v bg h ay ba S R1=>?_
 obtain rfl:=aF h;obtain⟨ds,items,lT,iK⟩:=hv _ rfl;simp only[fv]at lT;cases hr:bU r with
 |none=>rw[hr]at lT;exact ah lT
 |some d=>
  rw[hr]at lT;obtain rfl:=aF lT;cases d with
  |int i=>
   obtain⟨t,rfl⟩:=(R1.dat ay (cH hr)).int;have Lo:=iK;have iK:(if -1000000000<=i/\i<=(Sz:Int) then some (f6 0 i.toNat) else none)=some _:=iK
   split at iK
   .rename_i hi
    obtain rfl:=aF iK;refine ZZ (call_range_1 ?_);have Lj:=hi.1;have EG:i<=16777216:=hi.2;refine wpAny_pyIter_range (IsRange.new ..) (small_one (Ln [] (.i (.g (.c 4611686018427387904)) (.c 0)) [] rfl) (Ln [] (.i (.p 1 (.c 0)) (.c 4611686018427387904)) [] rfl) (Li [i] (.i (.g (.c 4611686018427387904)) .x) [Gi (.g (.c 1000000000)) .x] rfl hi.1) (Li [i] (.i (.p 1 .x) (.c 4611686018427387904)) [Gi .x (.n (.c 16777216))] rfl hi.2)) ?_
    let aA:Shared:= {s₁ with heap:=s₁.heap.push {cls:=.type "range",data:=.fields #[.int 0 s₁.toks,.int i t,.int 1 (s₁.toks + 1)]},toks:=s₁.toks + 1 + 1}
    have e0:Builtin.Range.rangeSize 0 i 1=(i.toNat:Int):=by rw[rangeSize_nat];simp
    have bH:(f6 0 i.toNat).length=i.toNat:=by simp[f6]
    refine⟨[r],[.int i],f6 0 i.toNat,ae,aw,aA.heap.objs.size,_,_,_,_,rfl,by simp[fv,hr],Lo,by refine Er bH ?_;exact Int.toNat_le.mpr EG,rfl,(ay.grow (pK _)).grow (pK _),(S.trans (.grow (pK _))).trans (.grow (tk:=aA.toks) (pK _)),⟨(by refine Er bH ?_;exact(Walks.range (prog:=prog) (w:=w) (A:=A) (R.hh gL) aA.heap.objs.size 0 1 i.toNat)),λj h st b hb=>?_,λi h st=>⟨_,_,st,rfl,by decide⟩⟩,nc (s₁:=aA) (ay.grow (pK _)) (S.trans (.grow (pK _))) (ZX _ rfl) ?_ (λb hb=>.inl (by rwa [Zl]at hb)) λj v hj p=>?_⟩
    .rw[Zl]at hb;subst hb;exact⟨_,st⟩
    .exact Er (show(0:Int)+((0:Nat):Int)*1=0 from by simp) (Er (show((i.toNat:Int)-((0:Nat):Int))=Builtin.Range.rangeSize 0 i 1 from by refine Er e0 ?_;simp) (ZX _ rfl))
    .obtain⟨u,rfl⟩:=p
     rw[bH]at hj;refine⟨.int (0+(j:Int)),by simp[f6,hj],?_⟩;rw[Int.mul_one];exact .int _ u
   .exact ah iK
  |none=>exact ah iK
  |bool b=>exact ah iK
  |str b=>exact ah iK
  |list b=>exact ah iK
  |tuple b=>exact ah iK
  |dict b=>exact ah iK
theorem A2 (gd:Gd c.glob) (en:aS A sc env y) (I:Inv y own Z s.heap fr) :∀ {es:List Expr} {xs:List Str} {Vs:List Value},NS sc es xs->gj mg mb xs Vs-> ∀ {Q:List Value->Shared->Prop},Q Vs s->wpAny (model prog w) A (spliced (backTo pos (starEach es env))) Q E s:=by
 intro es xs Vs hn
 induction hn generalizing Vs with
 |nil=>
  intro hv Q h;cases Vs with
  |nil=>exact spliced_none h
  |cons=>exact hv.elim
 |cons hg t ih=>
  intro hv Q h;cases Vs with
  |nil=>exact hv.elim
  |cons v vs=>exact spliced_more (kW gd en I hg hv.1 (ih hv.2 h)) rfl
theorem gj.len:∀ {xs:List Str} {Vs:List Value},gj mg mb xs Vs->Vs.length=xs.length:=by
 intro xs Vs h
 induction xs generalizing Vs with
 |nil=>
  cases Vs with
  |nil=>rfl
  |cons=>exact h.elim
 |cons x xs ih=>
  cases Vs with
  |nil=>exact h.elim
  |cons v vs=>exact Y2 (· + 1) (ih h.2)
set_option tactic.hygienic true in
theorem AC {x:Str} {cs:List Str} {es:List Expr} {k i:Nat} {yes no:List Str} {p p1 p2 pos:Pos} (R:Rn A c n) (en:aS A sc env y) (hg:sc.isG "isinstance") (hx:sc.isV x i) (hc:NS sc es cs) (IM:cs.length≤1000) (hs:tb.sbt.lookup cs = some (yes,no)) :
  SE A c y (eval (.Call (.Name "isinstance" p) [.Name x p1,.Tuple es k p2] [] pos) env) (.isx i yes no):=by
 intro own Z s fr out h I;rw[sr]at h;refine aQ (R.gd.askT cs yes no hs) λVs z=>?_
 split at h
 .rename_i kn hk
  obtain⟨l,v,hl,hr,sv⟩:=I.at' i _ hk (by intro q;cases q);refine aQ (tH h) λb u=>?_;obtain rfl:=u.2;have hb:=u.1
  refine jm (y0 R.gd I sv) λa o C Q=>?_;obtain rfl:=Q.1;have e:=Q.2.1;have ho:=Q.2.2.1;have J3:=Q.2.2.2
  have ask:dO B C Vs b:=by
   rcases hb with⟨rfl,hb⟩|⟨rfl,hb⟩
   .exact(z.2 kn C J3).1 hb
   .exact(z.2 kn C J3).2 hb
  refine Call_Name (args:=[.Name x p1,.Tuple es k p2]) rfl (dq R.gd en I hg (dN (.isi .int)) (eP (.isi .int)) (hY (.isi .int)) ?_);refine jG (b:=.isi .int) rfl ?_;refine Z1 (Z0 (dn en hx hl hr ?_));refine Z0 (Tuple_ (k:=k) (A2 R.gd en I hc z.1 ?_));refine YQ (ZZ ?_) (by show Vs.toArray.size≤sizeLine; refine Er Zj (Er z.1.len (Er bb.symm ?_)); exact Zf IM (by decide));have kp:∀b o,s.heap.get? b = some o→(s.heap.push {cls:=.type "tuple",data:=.seq Vs.toArray}).get? b = some o:=pK _;exact ask prog w A _ {s with heap:=s.heap.push {cls:=.type "tuple",data:=.seq Vs.toArray}} a s.heap.objs.size o (fun a o e=>kp a o (I.base a o e)) (kp _ _ e) ho (ZX _ rfl) _ fun tk=>.val (s':= {s with heap:=s.heap.push {cls:=.type "tuple",data:=.seq Vs.toArray},toks:=tk}) (I.grow kp) (.grow kp) (.bool b)
 .exact ah h
theorem F2.one {P:Expr->Ex->Prop} {a:Expr} {xs:List Ex} {M:List Ex->Prop} (F:F2 P [a] xs) (k:∀x,F2 P [a] [x]->M [x]):M xs:=by
 rcases xs with _|⟨x,_|_⟩
 .exact F.elim
 .exact k x F
 .exact F.2.2.elim
theorem F2.two {P:Expr->Ex->Prop} {a b:Expr} {xs:List Ex} {M:List Ex->Prop} (F:F2 P [a,b] xs) (k:∀x z,F2 P [a,b] [x,z]->M [x,z]):M xs:=by
 rcases xs with _|⟨x,_|⟨z,_|_⟩⟩
 .exact F.elim
 .exact F.2.2.elim
 .exact k x z F
 .exact F.2.2.2.2.elim
theorem GY {b:Bi} {xs:List Ex} (R:Rn A c n) (en:aS A sc env y) (h:BX sc e b es) (F:F2 (λe x=>CE sc e x/\SE A c y (eval e env) x) es xs):SE A c y (eval e env) (.bi b xs):=
 BX.casesOn (motive:=λe b es ac=>F2 (λe x=>CE sc e x/\SE A c y (eval e env) x) es xs->SE A c y (eval e env) (.bi b xs)) h
  (λg g' F=>F2.one (M:=λxs=>SE A c y _ (.bi .lenset xs)) F λac F=>uH R en g g' F.1.1 F.1.2)
  (λha hk hl F=>F2.two (M:=λxs=>SE A c y _ (.bi .dget xs)) F λac az F=>tr ha hk hl rfl F A3)
  (λha hk hl F=>F2.two (M:=λxs=>SE A c y _ (.bi .count xs)) F λac az F=>tr ha hk hl rfl F u6)
  (λF=>by cases xs with
   |nil=>exact wR R
   |cons=>exact F.elim)
  (λha hk hl F=>F2.two (M:=λxs=>SE A c y _ (.bi .split xs)) F λac az F=>tr ha hk hl rfl F u5)
  (λha hk hl F=>F2.two (M:=λxs=>SE A c y _ (.bi .part xs)) F λac az F=>tr ha hk hl rfl F xU)
  (λhl F=>F2.two (M:=λxs=>SE A c y _ (.bi .join xs)) F λac az F=>AB hl F)
  (λha hl F=>F2.one (M:=λxs=>SE A c y _ (.bi .up xs)) F λac F=>GU ha hl F.1.2)
  (λhg ha hk hl F=>F2.two (M:=λxs=>SE A c y _ (.bi .rfl xs)) F λac az F=>DN R en hg ha hk hl F) F
end
section
variable {A:Around} {E:Value->Shared->Prop} {env:Env} {sc:Sc} {y:Lay}
 {bv bv':List Nat} {own af ae:Addr->Option Nat} {Z Z' aw:Addr->Prop} {s s' s₁:Shared} {fr av:Fm} {h h':Heap}
structure C2 (y:Lay) (i:Nat) (l:Loc) (v:Value) (h h':Heap):Prop where
 keep:∀a o,a≠l.addr->h.get? a=some o->h'.get? a=some o
 live:∃o,h'.get? l.addr=some o
 rd:im h' l v
 oth:∀j k w,j≠i->y.loc j=some k->im h k w->im h' k w
 ok:∀j k,y.loc j=some k->rH h' k
 ns:∃m,h'.Ns y.L m
theorem C2.fz (p:C2 y i l v s.heap h') (I:Inv y own Z s.heap fr) (hl:y.loc i=some l) {d:D} (R:bS s.heap Z v d):Inv y own Z h' (fr.set i (.fz d)):=I.setFz hl p.keep p.live p.rd p.oth p.ok p.ns R
theorem C2.step {l:Loc} {v:Value} (p:C2 y i l v s.heap h') (hl:y.loc i=some l) (I:Inv y own Z s.heap fr):Step y [i] own Z s own Z {s with heap:=h',toks:=tk} where
 sh:=⟨_,_,rfl⟩
 ext:=by
  have ne:∀a, ¬y.wr own a->a≠l.addr:=λa nw q=>nw (.inr (.inr ⟨i,l,hl,q.symm⟩))
  refine⟨λa o e nw nf=>p.keep a o (ne a nw) e,λa o e=>?_,λa o f e=>⟨o.slots,p.keep a o (λq=>I.wf.nf i l hl (q▸f)) e⟩⟩
  by_cases q:a=l.addr
  .exact q▸p.live
  .exact⟨o,p.keep a o q e⟩
 zm:=λac z=>z
 zn:=λac z=>.inl z
 on:=λac az e=>.inl e
 bind:=λj k w n hk r=>p.oth j k w (λq=>n (by refine Er q ?_;exact List.mem_singleton.mpr rfl)) hk r
theorem C2.owned {l:Loc} (p:C2 y i l (.ref a) s.heap h') (I:Inv y own Z s.heap fr) (hl:y.loc i=some l) {d:D} (nw:¬y.wr own a) (nf:¬y.F a) (nz:¬Z a) (W:cq s.heap Z a d):Inv y (addO own a i) Z h' (fr.set i (.own d)):=
 I.setOwn hl p.keep p.rd p.oth p.ok p.ns nw nf nz W
theorem cZ {x:Str} {l:Loc} {v:Value} {Q:Unit->Shared->Prop} (en:aS A sc env y) (hv:sc.vars.lookup x=some i) (hf:env.kindOf x≠some .free) (hl:y.loc i=some l) (I:Inv y own Z s.heap fr)
  (h:∀h' tk,C2 y i l v s.heap h'->Q () {s with heap:=h',toks:=tk}):wpAny (model prog w) A (storeName env x v) Q E s:=by
 refine aM λG3 g3=>?_
 rcases en.var x i hv with⟨hk,e⟩|⟨hk|⟨hk,_⟩,c,hc,e⟩
 .refine g3 ?_
  rw[hl]at e;obtain rfl:=aF e;obtain⟨m,hn⟩:=I.ok i _ hl;refine wpAny_storeName_local hk hn (λh' z6 hs=>h h' _ ?_) (by refine Er en.kind ?_;rfl);refine⟨λa o q e=>hs.extBut a o q e,let ⟨o,_,_,e,_⟩:=z6;⟨o,e⟩,⟨_,z6,by simp⟩,λj k w hj f5 r=>?_,λj k f5=>?_,?_⟩
  .by_cases q:k.addr=env.locals
   .refine aM λG4 g4=>?_
    obtain⟨a,x',z,e1,e2,K0⟩:=I.wf.apart j i k _ f5 hl hj q;cases e2;subst e1;refine aQ r λm' r=>?_
    have em:m' x'=m x':=by
     refine aM λG1 g1=>?_
     refine jm r.1 λo es ep q0=>?_;have ho:=q0.1;have hd:=q0.2.1;have Ph:=q0.2.2.1;have Ox:=q0.2.2.2
     refine aM λG2 g2=>?_
     obtain⟨o',Kb,Kc,qX,di,Pg,Ov⟩:=hn;rw[ho]at qX;obtain rfl:=aF qX;rw[hd]at di;cases di;refine g2 ?_;refine g1 ?_;rw[<- Ox,Ov]
    refine g4 ?_;exact⟨_,z6,by show(if x'=x then some v else m x')=some w;exact Er (YW K0) (Er em.symm (Er r.2 rfl))⟩
   .exact r.keeps λo e=>hs.extBut _ o q e
  .by_cases q:k.addr=env.locals
   .cases k with
    |dict a z=>cases q;exact⟨_,z6⟩
    |cell a=>
     by_cases qY:j=i
     .subst qY;have f5:=hl▸f5;cases f5
     .refine jm (I.wf.apart j i _ _ f5 hl qY q) λa x' z u=>?_;cases u.1
   .exact(I.ok j k f5).keeps λo e=>hs.extBut _ o q e
  .by_cases q:y.L=env.locals
   .exact⟨_,q▸z6⟩
   .exact aQ I.nsL λm hm=>(⟨m,hm.sameBut hs q⟩)
 .refine g3 ?_
  rw[hl]at e;obtain rfl:=aF e;obtain⟨Ko,Im⟩:=I.ok i _ hl;refine wpAny_storeName_cell en.kind hk hc Im λh' qg hs=>?_
  have P:C2 y i (.cell c) v s.heap h':=by
   refine⟨λa o q e=>hs.extBut a o q e,let ⟨o,e,_⟩:=qg;⟨o,e⟩,qg,λj k w hj f5 r=>?_,λj k f5=>?_,?_⟩
   .by_cases q:k.addr=c
    .refine jm (I.wf.apart j i k _ f5 hl hj q) λa x' z U=>?_
     cases U.2.1
    .exact r.keeps λo e=>hs.extBut _ o q e
   .by_cases q:k.addr=c
    .refine aM λG g=>?_
     by_cases qY:j=i
     .refine g ?_
      subst qY;rw[hl]at f5;exact Er (aF f5).symm (⟨_,qg⟩)
     .refine g ?_
      refine jm (I.wf.apart j i _ _ f5 hl qY q) λa x' z J=>?_;cases J.2.1
    .exact(I.ok j k f5).keeps λo e=>hs.extBut _ o q e
   .obtain⟨m,hm⟩:=I.nsL
    exact⟨m,hm.sameBut hs λq=>I.wf.cl i c hl q.symm⟩
  exact h h' s.toks P
 .refine g3 ?_
  exact absurd hk hf
noncomputable def Lay.puts (y:Lay) (C:Addr) (i:Nat) (vs:List Str):Lay:= {y with loc:=λj=>if i<=j then(vs[j-i]?).map (Loc.dict C) else y.loc j}
section
variable {C:Addr} {i j k:Nat} {vs:List Str} {v:Str} {l:Loc} {a:Addr}
theorem nP (h:vs[k]? = some v):(y.puts C i vs).loc (i+k)=some (.dict C v):=by
 show(if i<=i+k then(vs[i+k-i]?).map (Loc.dict C) else _)=_
 refine Er (YV (Nat.le_add_right i k)) ?_;rw[Nat.add_sub_cancel_left];refine Er h ?_;rfl
theorem eV (hi:∀j l,y.loc j=some l->j<i) (h:y.loc j=some l):(y.puts C i vs).loc j=some l:=(YW (Nat.not_le.mpr (hi j l h))).trans h
theorem bu (h:(y.puts C i vs).loc j=some l):(∃v,i<=j/\vs[j-i]? = some v/\l = .dict C v)\/(j<i/\y.loc j=some l):=by
 have h:(if i<=j then(vs[j-i]?).map (Loc.dict C) else y.loc j)=some l:=h
 by_cases q:i<=j
 .have h:=(YV q)▸h
  cases e:vs[j-i]? with
  |none=>have h:=e▸h;exact ah h
  |some v=>rw[e]at h;exact .inl ⟨v,q,rfl,(Y5 h).symm⟩
 .have h:=(YW q)▸h;exact .inr ⟨Nat.not_le.mp q,h⟩
theorem rt (h:(y.puts C i vs).wr own a):y.wr own a\/a=C:=by
 rcases h with h|h|⟨j,k,hk,rfl⟩
 .exact .inl (.inl h)
 .exact .inl (.inr (.inl h))
 .rcases bu hk with⟨_,_,_,rfl⟩|⟨_,hk⟩
  .exact .inr rfl
  .exact .inl (.inr (.inr ⟨j,k,hk,rfl⟩))
theorem q8 (hi:∀j l,y.loc j=some l->j<i) (h:y.wr own a):(y.puts C i vs).wr own a:=by
 rcases h with h|h|⟨j,k,hk,rfl⟩
 .exact .inl h
 .exact .inr (.inl h)
 .exact .inr (.inr ⟨j,k,eV hi hk,rfl⟩)
theorem Inv.put (I:Inv y own Z h fr) (hi:∀j l,y.loc j=some l->j<i) (nd:vs.Nodup) (nw:¬y.wr own C) (nf:¬y.F C) (nz:¬Z C) (hn:h.Ns C m):Inv (y.puts C i vs) own Z h fr:=by
 have nC:∀j k,y.loc j=some k->k.addr≠C:=λj k e q=>nw (.inr (.inr ⟨j,k,e,q⟩))
 refine⟨⟨λj j' k k' hk f5 ip hq=>?_,λj k hk=>?_,I.wf.nL,λj a hk=>?_⟩,I.base,I.zb,I.zo,λj k hk=>?_,λj k hk=>?_,I.zL,I.oL,I.zF,I.oF,I.zlv,I.olv,I.flv,λj k hk=>?_,I.nsL,λj sl e n=>?_⟩
 .rcases bu hk with⟨v,l1,e1,rfl⟩|⟨hj,hk⟩<;>rcases bu f5 with⟨v',l2,e2,rfl⟩|⟨Pi,f5⟩
  .refine⟨C,v,v',rfl,rfl,λq=>ip ?_⟩
   subst q;have:=(List.getElem_inj (h₀:=(List.getElem?_eq_some_iff.mp e1).1) (h₁:=(List.getElem?_eq_some_iff.mp e2).1) nd).mp ((List.getElem?_eq_some_iff.mp e1).2.trans (List.getElem?_eq_some_iff.mp e2).2.symm);exact(Le [j,j',j-i,j'-i,i] (.e .x .y) [Gp .z .u,Gq (.a .z (.v 4)) .x,Gp (.a .u (.v 4)) .y] rfl this (Za (n:=j) (m:=i) l1) (Za (n:=j') (m:=i) l2))
  .exact absurd hq.symm (nC _ _ f5)
  .exact absurd hq (nC _ _ (by assumption))
  .exact I.wf.apart j j' k k' hk f5 ip hq
 .rcases bu hk with⟨_,_,_,rfl⟩|⟨hj,hk⟩
  .exact nf
  .exact I.wf.nf j k hk
 .rcases bu hk with⟨_,_,_,q⟩|⟨hj,hk⟩
  .cases q
  .exact I.wf.cl j a hk
 .rcases bu hk with⟨_,_,_,rfl⟩|⟨hj,hk⟩
  .exact nz
  .exact I.zl j k hk
 .rcases bu hk with⟨_,_,_,rfl⟩|⟨hj,hk⟩
  .show own C=none
   cases q:own C with
   |none=>rfl
   |some z=>exact absurd (.inl (by refine Er q ?_;exact λn=>by cases n)) nw
  .exact I.ol j k hk
 .rcases bu hk with⟨_,_,_,rfl⟩|⟨hj,hk⟩
  .exact⟨m,hn⟩
  .exact I.ok j k hk
 .obtain⟨l,v,hl,r1,r⟩:=I.at' j sl e n
  exact⟨l,v,eV hi hl,r1,r⟩
theorem Inv.unput (I:Inv (y.puts C i vs) own Z h fr) (wf:y.Wf) (hi:∀j l,y.loc j=some l->j<i) (hf:∀j,i<=j->j<i+vs.length-> ∀sl,fr[j]? = some sl->sl = .no):Inv y own Z h fr where
 wf:=wf
 base:=I.base
 zb:=I.zb
 zo:=I.zo
 zl:=λj k hk=>I.zl j k (eV hi hk)
 ol:=λj k hk=>I.ol j k (eV hi hk)
 zL:=I.zL
 oL:=I.oL
 zF:=I.zF
 oF:=I.oF
 zlv:=I.zlv
 olv:=I.olv
 flv:=I.flv
 ok:=λj k hk=>I.ok j k (eV hi hk)
 nsL:=I.nsL
 at':=λj sl e n=>by
  refine aM λG g=>?_
  obtain⟨k,v,hk,r1,r⟩:=I.at' j sl e n
  rcases bu hk with⟨_,hj,q,rfl⟩|⟨hj,hk⟩
  .refine g ?_
   have Q:=List.getElem?_eq_some_iff.mp q;exact absurd (hf j hj (Ln [j,i,vs.length,j-i] (.w (.p 1 .x) (.a .y .z)) [Gl (.p 1 .u) .z,Gf (.a .u .y) .x] rfl Q.1 (Za (n:=j) (m:=i) hj)) sl e) n
  .refine g ?_
   exact⟨k,v,hk,r1,r⟩
theorem Step.put (S:Step y bv own Z s af Z' s') (hi:∀j l,y.loc j=some l->j<i) (hC:s.heap.get? C=none):Step (y.puts C i vs) bv own Z s af Z' s' where
 sh:=S.sh
 ext:=⟨λa o e nw nf=>S.ext.keep a o e (λq=>nw (q8 hi q)) nf,S.ext.live,S.ext.fram⟩
 zm:=S.zm
 zn:=S.zn
 on:=S.on
 bind:=λj k v n hk r=>by
  rcases bu hk with⟨_,_,_,rfl⟩|⟨hj,hk⟩
  .obtain⟨m,⟨o,_,_,e,_⟩,_⟩:=r;rw[hC]at e;exact ah e
  .exact S.bind j k v n hk r
theorem Step.unput (S:Step (y.puts C i vs) bv own Z s af Z' s') (hi:∀j l,y.loc j=some l->j<i) (hC:s.heap.get? C=none):Step y bv own Z s af Z' s' where
 sh:=S.sh
 ext:=⟨λa o e nw nf=>S.ext.keep a o e (λq=>(rt q).elim nw λq=>by rw[q,hC]at e;exact ah e) nf,S.ext.live,S.ext.fram⟩
 zm:=S.zm
 zn:=S.zn
 on:=S.on
 bind:=λj k v n hk r=>S.bind j k v n (eV hi hk) r
end
end
noncomputable def qZ (env:Env):List (Str×NameKind)->List (Str×Addr)->List (Str×Addr)
 |[],aE=>aE
 |(n,k)::r,aE=>if k == .free then qZ env r ((n,(env.cells.lookup n).getD 0)::aE) else qZ env r aE
theorem jV (h:∀x∈scope.names,x.2 = .free-> ∃c,env.cells.lookup x.1=some c):closureFor scope env=pure (qZ env scope.names []):=by
 simp only[closureFor]
 suffices H:∀(l:List (Str×NameKind)) (aE:List (Str×Addr)),(∀x∈l,x.2 = .free-> ∃c,env.cells.lookup x.1=some c)->(forIn l aE λx r=>match x with
   |(name,kind)=>if (kind==NameKind.free)=true then do let a <- cellOf env name;pure (ForInStep.yield ((name,a)::r)) else pure (ForInStep.yield r))=(pure (qZ env l aE):Sem (List (Str×Addr))) by
  refine Er (H _ _ h) ?_
  rfl
 intro l
 induction l with
 |nil=>intro aE _;rfl
 |cons x l ih=>
  intro aE hx;rw[forIn_cons];cases hk:x.2==NameKind.free with
  |false=>
   dsimp only;refine Er hk (Er (YW Z6) ?_);refine Eq.trans ?_ ((ih aE (hG hx)).trans ?_)
   .rfl
   .simp[qZ,hk]
  |true=>
   dsimp only;refine Er hk (Er (YV rfl) ?_);refine aQ (hx (x.1,x.2) Zn (by simpa using hk)) λc hc=>?_
   have:cellOf env x.1=pure c:=by unfold cellOf;exact Er hc rfl
   refine Er this ?_;refine Eq.trans ?_ ((ih ((x.1,c)::aE) (hG hx)).trans ?_)
   .rfl
   .simp[qZ,hk,hc]
set_option tactic.hygienic true in
theorem Fh:∀(l:List (Str×NameKind)) (aE:List (Str×Addr)),(∀x∈l,x.2 = .free-> ∃c,env.cells.lookup x.1=some c)->(∀p∈aE,env.cells.lookup p.1=some p.2)-> ∀p∈qZ env l aE,env.cells.lookup p.1=some p.2:=by
 intro l aE hx h
 induction l generalizing aE h with
 |nil=>exact h
 |cons p0 l ih=>
  obtain⟨n,k⟩:=p0;have wa:∀x∈l,x.2 = .free-> ∃c,env.cells.lookup x.1=some c:=(hG hx)
  unfold qZ
  split
  .rename_i hk
   refine ih _ wa λp hp=>?_
   rcases mem_cons.mp hp with rfl|hp
   .refine aQ (hx (n,k) Zn (by simpa using hk)) λc hc=>?_
    simp[hc]
   .exact h p hp
  .exact ih aE wa h
theorem BW:∀(l:List (Str×NameKind)) (aE:List (Str×Addr)), ∀p∈aE,p∈qZ env l aE:=by
 intro l aE p h
 induction l generalizing aE p h with
 |nil=>exact h
 |cons p0 l ih=>
  obtain⟨n,k⟩:=p0;unfold qZ
  split
  .exact ih _ p (Zo _ h)
  .exact ih _ p h
theorem BV:∀(l:List (Str×NameKind)) (aE:List (Str×Addr)) (x:Str×NameKind),x∈l->x.2 = .free-> ∃c,(x.1,c)∈qZ env l aE:=by
 intro l aE x h hx
 induction l generalizing aE x hx with
 |nil=>cases h
 |cons p0 l ih=>
  obtain⟨n,k⟩:=p0
  rcases mem_cons.mp h with rfl|h
  .have hk:k = .free:=hx
   subst hk;exact⟨(env.cells.lookup n).getD 0,by unfold qZ;exact BW l _ _ Zn⟩
  .unfold qZ
   split
   .exact ih _ x h hx
   .exact ih _ x h hx
theorem fN:∀ {l:List (Str×α)} {x:Str} {c:α},(x,c)∈l-> ∃c',l.lookup x=some c'/\(x,c')∈l:=by
 intro l x c h
 induction l generalizing x c with
 |nil=>cases h
 |cons p0 l ih=>
  obtain⟨n,a⟩:=p0;refine Er Zv ?_;cases hx:x==n with
  |true=>simp only[beq_iff_eq]at hx;subst hx;exact⟨a,rfl,Zn⟩
  |false=>
   rcases mem_cons.mp h with q|h
   .cases q;simp at hx
   .exact aQ (ih h) λc' Q=>(⟨c',Q.1,Zo _ Q.2⟩)
theorem mem_of_lookup:∀ {l:List (Str×α)} {x:Str} {c:α},l.lookup x=some c->(x,c)∈l:=by
 intro l x c h
 induction l generalizing x c with
 |nil=>exact ah h
 |cons p0 l ih=>
  obtain⟨n,a⟩:=p0;rw[Zv]at h;cases hx:x==n with
  |true=>rw[hx]at h;refine Er (aF h) ?_;simp only[beq_iff_eq]at hx;subst hx;exact Zn
  |false=>have h:=hx▸h;exact Zo _ (ih h)
theorem bB {env:Env} {k:NameKind} (hk:k≠ .free):∀ {names:List (Str×NameKind)} {x:Str},names.lookup x=some k->
  (names.map λ(n,k)=>if (k==NameKind.free&&env.scope.kind == .function&&env.kindOf n==some .cell) then(n,NameKind.cell) else(n,k)).lookup x=some k
 |[],_,h=>by simp at h
 |(n,k')::r,x,h=>by
  show List.lookup x ((if (k'==NameKind.free&&env.scope.kind == .function&&env.kindOf n==some .cell)=true then(n,NameKind.cell) else(n,k'))::_)=_
  cases hx:x==n with
  |true=>
   simp only[Zv,hx]at h;cases h;have:(k==NameKind.free)=false:=by simpa using hk
   simp[Zv,hx,this]
  |false=>
   simp only[Zv,hx]at h
   by_cases hc:(k'==NameKind.free&&env.scope.kind == .function&&env.kindOf n==some .cell)=true
   .rw[YV hc];simp only[Zv,hx];exact(@bB env k hk r x) h
   .rw[YW hc];simp only[Zv,hx];exact(@bB env k hk r x) h
theorem bI {env:Env}:∀ {names:List (Str×NameKind)} {x:Str},names.lookup x=some .free->
  (names.map λ(n,k)=>if (k==NameKind.free&&env.scope.kind == .function&&env.kindOf n==some .cell) then(n,NameKind.cell) else(n,k)).lookup x=some .free\/
  (names.map λ(n,k)=>if (k==NameKind.free&&env.scope.kind == .function&&env.kindOf n==some .cell) then(n,NameKind.cell) else(n,k)).lookup x=some .cell
 |[],_,h=>by simp at h
 |(n,k')::r,x,h=>by
  refine Er Zt ?_;cases hx:x==n with
  |true=>
   simp only[Zv,hx]at h;refine Er (aF h) ?_
   by_cases hc:(NameKind.free==NameKind.free&&env.scope.kind == .function&&env.kindOf n==some .cell)=true
   .right;show List.lookup x ((if _ then _ else _)::_)=_;refine Er (YV hc) ?_;simp only[Zv,hx]
   .left;show List.lookup x ((if _ then _ else _)::_)=_;refine Er (YW hc) ?_;simp only[Zv,hx]
  |false=>
   simp only[Zv,hx]at h;show List.lookup x ((if _ then _ else _)::_)=_\/List.lookup x ((if _ then _ else _)::_)=_
   by_cases hc:(k'==NameKind.free&&env.scope.kind == .function&&env.kindOf n==some .cell)=true
   .refine Er (YV hc) ?_;simp only[Zv,hx];exact(@bI env r x) h
   .refine Er (YW hc) ?_;simp only[Zv,hx];exact(@bI env r x) h
theorem l6 {p:Str×Nat->Bool}:∀ {l:List (Str×Nat)} {x:Str} {i:Nat},(∀a b c,p (a,b)=p (a,c))->(l.filter p).lookup x=some i->l.lookup x=some i/\p (x,i)=true:=by
 intro l x i hp h
 induction l generalizing x i hp with
 |nil=>exact ah h
 |cons p0 l ih=>
  obtain⟨n,j⟩:=p0;refine Er Zv ?_
  by_cases q:p (n,j)=true
  .rw[List.filter_cons_of_pos q,Zv]at h
   cases hx:x==n with
   |true=>rw[hx]at h;refine Er (aF h).symm ?_;simp only[beq_iff_eq]at hx;subst hx;exact⟨rfl,q⟩
   |false=>rw[hx]at h;exact ih hp h
  .rw[List.filter_cons_of_neg q]at h
   obtain⟨h1,h2⟩:=ih hp h;cases hx:x==n with
   |true=>simp only[beq_iff_eq]at hx;subst hx;rw[hp x i j]at h2;exact absurd h2 q
   |false=>exact⟨h1,h2⟩
theorem rS {l r:List (Str×Nat)} {x:Str} :(l++r).lookup x=some i->l.lookup x=some i\/r.lookup x=some i:=by
 induction l with
 |nil=>exact .inr
 |cons p l ih=>
  intro h;rw[cons_append,Zv]at h;refine Er Zv ?_;cases q:x==p.1 with
  |true=>rw[q]at h;exact .inl h
  |false=>rw[q]at h;exact ih h
theorem pN {l r:List (Str×Nat)} {x:Str} :l.lookup x=some i->(l++r).lookup x=some i:=by
 induction l with
 |nil=>intro h;exact ah h
 |cons p l ih=>
  intro h;rw[Zv]at h;refine Er cons_append (Er Zv ?_);cases q:x==p.1 with
  |true=>rw[q]at h;exact h
  |false=>rw[q]at h;exact ih h
theorem us {x:Str}:∀ {vs:List Str} {i k:Nat},vs.Nodup->vs[k]? = some x->(vs.zipIdx i).lookup x=some (i+k):=by
 intro vs i k nd h
 induction vs generalizing i k with
 |nil=>exact ah h
 |cons v vs ih=>
  cases k with
  |zero=>refine Er (aF h) ?_;refine Er zipIdx_cons ?_;refine Er Zv ?_;rw[beq_self_eq_true];rfl
  |succ k=>
    rw[nodup_cons]at nd;refine Er zipIdx_cons ?_;rw[Zv,(beq_eq_false_iff_ne.mpr λe=>nd.1 (e▸Zm (i:=k) h):(x==v)=false),Nat.add_comm k 1,<- Nat.add_assoc];exact ih nd.2 h
theorem lZ {x:Str} :∀ {vs:List Str} {i:Nat},(vs.zipIdx i).lookup x=some j-> ∃k,j=i+k/\vs[k]? = some x:=by
 intro vs i h
 induction vs generalizing i with
 |nil=>exact ah h
 |cons v vs ih=>
  rw[zipIdx_cons,Zv]at h;cases q:x==v with
  |true=>rw[q]at h;exact Er (aF h) (⟨0,rfl,by refine Er (beq_iff_eq.mp q) ?_;rfl⟩)
  |false=>
   rw[q]at h;exact aQ (ih h) λk Q=>(⟨k+1,by exact(Le [j,i,k] (.e .x (.a .y (.p 1 .z))) [Gp .x (.a (.p 1 .y) .z)] rfl Q.1),Q.2⟩)
theorem zu {sc:Sc} {y:Lay} {vs:List Str} (en:aS A sc env y) (ok:gU scope sc vs) (hi:sc.hi<=i):
  closureFor scope env=pure (qZ env scope.names [])/\aS A (bG scope sc vs i) (compEnvC scope (qZ env scope.names []) C env) (y.puts C i vs):=by
 have cells:∀x∈scope.names,x.2 = .free-> ∃c,env.cells.lookup x.1=some c:=λx hx hf=>by
  obtain⟨h1,h0,⟨j,hj⟩,h3⟩:=ok.free x hx hf
  rcases en.var x.1 j hj with⟨hk,_⟩|⟨_,c,hc,_⟩
  .rcases en.cf x.1 h3 with q|q<;>(have q:=hk▸q;cases q)
  .exact⟨c,hc⟩
 refine⟨jV cells,⟨en.stk,λj l hl=>?_,ok.kind,en.glob,en.blt,en.frame,en.top,λx j hx=>?_,λx hx=>?_,λx hx=>?_⟩⟩
 .show j<i+vs.length
  rcases bu hl with⟨v,h1,h2,_⟩|⟨h1,hl⟩
  .have u:=List.getElem?_eq_some_iff.mp h2;exact(Ln [j,i,vs.length,j-i] (.w (.p 1 .x) (.a .y .z)) [Gl (.p 1 .u) .z,Gf (.a .u .y) .x] rfl u.1 (Za (n:=j) (m:=i) h1))
  .exact Ze h1 (Nat.le_add_right _ _)
 .unfold bG at hx
  dsimp only at hx
  rcases rS hx with hx|hx
  .obtain⟨k,z⟩:=lZ hx;refine Er z.1 ?_
   exact .inl ⟨lookup_relabel_local (ok.loc x (Zm z.2)),nP z.2⟩
  .-- one of the names around
   obtain⟨h1,h2⟩:=l6 (λac az cL=>rfl) hx;have qd:scope.names.lookup x=some .free:=by simpa using h2
   have Q:=ok.free _ (mem_of_lookup qd) rfl
   right
   refine aM λG g=>?_
   rcases en.var x j h1 with⟨hk,_⟩|⟨_,c,hc,hl⟩
   .refine g ?_
    rcases en.cf x Q.2.2.2 with q|q<;>(have q:=hk▸q;cases q)
   .refine g ?_
    refine⟨?_,c,?_,?_⟩
    .rcases bI (env:=env) qd with q|q
     .exact .inr ⟨q,Q.2.1⟩
     .exact .inl q
    .refine aQ (BV (env:=env) scope.names [] _ (mem_of_lookup qd) rfl) λc1 hm=>?_
     refine aQ (fN hm) λc2 Z=>?_
     have:=Fh scope.names [] cells (λp hp=>by cases hp) _ Z.2;have:env.cells.lookup x=some c2:=this;rw[hc]at this;exact Er (aF this) Z.1
    .exact eV (λj l h=>Ze (en.hi j l h) hi) hl
 .exact bB (by intro q;cases q) hx
 .rcases hx with hx|hx
  .exact .inl (bB (by intro q;cases q) hx)
  .exact(bI hx).symm
structure Lv (P fs:Addr->Prop) (h h':Heap):Prop where
 keep:∀b o,h.get? b=some o-> ¬P b-> ¬fs b->h'.get? b=some o
 slot:∀b o,fs b-> ¬P b->h.get? b=some o-> ∃sl,h'.get? b=some {o with slots:=sl}
 live:∀b o,h.get? b=some o-> ∃o',h'.get? b=some o'
theorem Lv.trans {P:Addr->Prop} {Gu:Heap} (x:Lv P fs h h') (z:Lv P fs h' Gu):Lv P fs h Gu where
 keep:=λb o e p f=>z.keep b o (x.keep b o e p f) p f
 slot:=λb o f p e=>let ⟨_,e'⟩:=x.slot b o f p e;let ⟨sl,IZ⟩:=z.slot b _ f p e';⟨sl,IZ⟩
 live:=λb o e=>let ⟨o',e'⟩:=x.live b o e;z.live b o' e'
theorem Lv.upd {P:Addr->Prop} {T:Addr} {f:Obj->Obj} {o:Obj} (p:P T) (e:h.get? T=some o) (q:(f o).isFreed=false):Lv P fs h (h.update T f) where
 keep:=λb o e n ac=>(ZW h f λq:T=b=>n (q▸p)).trans e
 slot:=λb o ac n e=>⟨o.slots,(ZW h f λq:T=b=>n (q▸p)).trans e⟩
 live:=λb o' e'=>by
  by_cases z:b=T
  .subst z;exact⟨_,Heap.get?_update_self f e q⟩
  .exact⟨o',(ZW h f (Ne.symm z)).trans e'⟩
theorem Lv.push {P:Addr->Prop} (o:Obj):Lv P fs h (h.push o) where
 keep:=λb o e ac az=>pK _ b o e
 slot:=λb o ac az e=>⟨o.slots,pK _ b o e⟩
 live:=λb o e=>⟨o,pK _ b o e⟩
theorem Lv.slots {P:Addr->Prop} {S:List Addr} (x:Heap.SlotsOnly S h h') (k:∀b∈S,fs b):Lv P fs h h' where
 keep:=λb o e ac f=>(x.2.1 b λq=>f (k b q)).trans e
 slot:=λb o ac az e=>x.2.2 b o e
 live:=λb o e=>let ⟨_,e⟩:=x.2.2 b o e;⟨_,e⟩
theorem Lv.refl {P:Addr->Prop} :Lv P fs h h:=⟨λac az e cL lS=>e,λac o az cL e=>⟨o.slots,e⟩,λac o e=>⟨o,e⟩⟩
theorem zk (o:Obj) (f:Array Value->Array Value):(Obj.mapFields f o).dict=o.dict:=by obtain⟨c,d,dt,sl⟩:=o;cases dt<;>rfl
def dC (h:Heap) (P:Addr->Prop) (a:Addr) (nm:Str):Prop:=
 P a/\ ∃oe vs C m,h.get? a=some oe/\(oe.cls = .ref C/\oe.dict=none)/\oe.data = .fields vs/\B.Ns mainGlobals m/\m nm=some (.ref C)/\
  ∃T oT ts,vs[1]? = some (.ref T)/\T≠a/\h.get? T=some oT/\oT.data = .fields ts/\3<ts.size/\P T
theorem dC.is {P:Addr->Prop} :dC h P a nm->iF h P a nm:=by
 intro x;obtain⟨p,oe,vs,C,m,h1,h2,h3,h4,h5,h6⟩:=x;exact⟨p,oe,vs,C,m,h1,h2,h3,h4,h5,.inr h6⟩
section
variable {M:Model} {A:Around} {E:Value->Shared->Prop} {s:Shared} {env e0:Env} {dU:List Env} {L a:Addr} {nm:Str} {P:Addr->Prop} {Q:Unit->Shared->Prop}
theorem mQ {oe:Obj} {vs:Array Value} {head:Value} {Bx:Bool} (Bs:A.frames=some (e0::dU)) (Bt:e0.frame=env.frame) (hl:s.heap.FunFrames B (e0::dU)) (hf:env.frame=some L) (he:s.heap.get? a=some oe) (hd:oe.data = .fields vs) (hsz:1<vs.size)
  (hc:oe.cls = .ref C/\oe.dict=none) (hn:B.Ns mainGlobals m) (hm:m nm=some (.ref C)) (pa:P a) (hP:∀b,s.heap.get? b=none->P b)
  (k:∀h',Lv P (λb=>b∈(e0::dU).filterMap (·.frame)) s.heap h'->dC h' P a nm->Q () {s with heap:=h'}):
  wpAny M A (do let fa <- frameOf env;let pl <- entryPlaceOf L Bx;let b <- EntryCells.newEntry head fa .none (rawInt L) .none pl;setField (.ref a) 1 b) Q E s:=by
 have ha:a∉(e0::dU).filterMap (·.frame):=λq=>by
  obtain⟨_,o,ho,nr⟩:=hl.mem q;rw[he]at ho;obtain rfl:=aF ho;exact nr vs hd
 refine Er (show frameOf env=frameOf e0 from by unfold frameOf; exact Er Bt rfl) ?_;refine YS (wpAny_frameOf_fun Bs hl (Bt.trans hf) fun h₁ C9=>?_);refine YS (wpAny_entryPlaceOf fun pl CF=>?_);unfold EntryCells.newEntry newFields;refine YS (YQ ?_ (CF.sizeOk5 _ _ _ _ _));have bg:=(C9.2.1 a ha).trans he;generalize hT:({cls:=.type "traceback",dict:=none,data:=.fields ([head,.ref L,.none,rawInt L,.none] ++ (if pl.isEmpty then replicate 6 Value.none else pl)).toArray} :Obj) = oT;refine wpAny_setField (ZY (h:=h₁) oT bg) hd hsz ?_;have OH:oT.isFreed=false:=by refine Er hT.symm ?_; rfl
 obtain⟨ts,N9,K5⟩:∃ts,oT.data = .fields ts/\3<ts.size:=⟨_,by exact Er hT.symm rfl,by simp only[Zj,ZE,ZD,length_nil];exact(L0 [(if pl.isEmpty=true then replicate (6:Nat) Value.none else pl).length] (.p 1 (.c 3)) (.a (.p 1 (.p 1 (.p 1 (.p 1 (.p 1 (.c 0)))))) .x) rfl)⟩
 have pT:P h₁.objs.size:=hP _ (by refine Er C9.1 ?_;exact yK _);exact k _ (((Lv.slots C9 λb q=>q).trans (Lv.push oT)).trans (Lv.upd pa (ZY (h:=h₁) oT bg) (Obj.isFreed_of_fields (Obj.data_mapFields hd (·.setIfInBounds 1 (Value.ref h₁.objs.size))))))
  ⟨pa,_,_,C,m,(Heap.get?_update_self (Obj.mapFields (·.setIfInBounds 1 (Value.ref h₁.objs.size))) (ZY (h:=h₁) oT bg) (Obj.isFreed_of_fields (Obj.data_mapFields hd (·.setIfInBounds 1 (Value.ref h₁.objs.size))))),⟨(Obj.cls_mapFields _ _).trans hc.1,(zk _ _).trans hc.2⟩,(Obj.data_mapFields hd (·.setIfInBounds 1 (Value.ref h₁.objs.size))),hn,hm,h₁.objs.size,oT,ts,by simp[hsz],(ne_of_gt (ZV bg)),((ZW (h₁.push oT) (Obj.mapFields (·.setIfInBounds 1 (Value.ref h₁.objs.size))) (Ne.symm (ne_of_gt (ZV bg)))).trans (ZX h₁ OH)),N9,K5,pT⟩
theorem pA (Bs:A.frames=some (e0::dU)) (Bt:e0.frame=env.frame) (hl:s.heap.FunFrames B (e0::dU)) (hf:env.frame=some L) (X:iF s.heap P a nm) (hP:∀b,s.heap.get? b=none->P b)
  (k:∀h',Lv P (λb=>b∈(e0::dU).filterMap (·.frame)) s.heap h'->dC h' P a nm->Q () {s with heap:=h'}):wpAny M A (noteFrame (.ref a) env) Q E s:=by
 obtain⟨pa,oe,vs,C,m,he,hc,hd,hn,hm,ht⟩:=X;unfold noteFrame;simp only[hf];refine aM λG g=>?_
 rcases ht with h1|⟨T,oT,ts,h1,ne,eT,vi,sz,pT⟩
 .refine g ?_
  exact YS (wpAny_field he hd h1 (Er (YW (by decide)) (mQ Bs Bt hl hf he hd (Array.getElem?_eq_some_iff.mp h1).1 hc hn hm pa hP k)))
 .refine g ?_
  refine YS (wpAny_field he hd h1 ?_);refine Er (YV (show(Value.ref T != Value.none)=true from by simp)) ?_;refine YS (wpAny_field eT vi (Array.getElem?_eq_getElem sz) ?_)
  by_cases q:(ts[3]==rawInt L)=true
  .exact Er (YV q) (YO (k _ .refl ⟨pa,oe,vs,C,m,he,hc,hd,hn,hm,T,oT,ts,h1,ne,eT,vi,sz,pT⟩))
  refine Er (YW q) ?_;refine YS (wpAny_setField eT vi sz ?_);have u:Lv P (λb=>b∈(e0::dU).filterMap (·.frame)) s.heap (s.heap.update T (Obj.mapFields (·.setIfInBounds 3 Value.none))):=Lv.upd pT eT (Obj.isFreed_of_fields (Obj.data_mapFields vi (·.setIfInBounds 3 Value.none)));have df:(s.heap.update T (Obj.mapFields (·.setIfInBounds 3 Value.none))).FunFrames B (e0::dU):=hl.of_keeps λb o hb nr=>⟨o,(ZW _ _ λq=>by subst q;rw[eT]at hb;obtain rfl:=aF hb;exact nr ts vi).trans hb,rfl⟩
  refine mQ (s:= {s with heap:=s.heap.update T (Obj.mapFields (·.setIfInBounds 3 Value.none))}) Bs Bt df hf ((ZW _ _ ne).trans he) hd (Array.getElem?_eq_some_iff.mp h1).1 hc hn hm pa (λb e=>hP b ?_) λh' x y=>k h' (u.trans x) y
  cases q:s.heap.get? b with
  |none=>rfl
  |some o=>obtain⟨o',e'⟩:=u.live b o q;rw[e]at e';exact ah e'
theorem j9 (fo:Option Addr) (X:dC s.heap P a nm) (k:∀h',Lv P fs s.heap h'->dC h' P a nm->Q () {s with heap:=h'}):wpAny M A (setFlight (.ref a) fo) Q E s:=by
 refine aM λG g=>?_
 obtain⟨pa,oe,vs,C,m,he,hc,hd,hn,hm,T,oT,ts,h1,ne,eT,vi,sz,pT⟩:=X;refine g ?_;unfold setFlight;refine YS (wpAny_field he hd h1 ?_);refine Er (YV (show(Value.ref T != Value.none)=true from by simp)) ?_;generalize fo.elim Value.none (λf=>rawInt f)=x;exact wpAny_setField eT vi sz (k _ (Lv.upd pT eT (Obj.isFreed_of_fields (Obj.data_mapFields vi (·.setIfInBounds 3 x)))) ⟨pa,oe,vs,C,m,(ZW _ _ ne).trans he,hc,hd,hn,hm,T,_,_,h1,ne,Heap.get?_update_self _ eT (Obj.isFreed_of_fields (Obj.data_mapFields vi (·.setIfInBounds 3 x))),Obj.data_mapFields vi _,by simpa using sz,pT⟩)
theorem dC.tb (X:dC s.heap P a nm) {Q:Value->Shared->Prop} (k:∀T,Q (.ref T) s):wpAny M A (field (.ref a) 1) Q E s:=by
 refine aM λG g=>?_
 obtain⟨_,oe,vs,_,_,he,_,hd,_,_,T,_,_,h1,_⟩:=X;refine g ?_;exact wpAny_field he hd h1 (k T)
theorem w8 {GD:String} {Q:α->Shared->Prop} (X:dC s.heap P a nm) (k:∀h',Lv P (λac=>False) s.heap h'->dC h' P a nm->E (.ref a) {s with heap:=h'}):wpAny M A (PySem.passOn GD (.ref a) env:Sem α) Q E s:=by
 unfold PySem.passOn;exact YS (X.tb λT=>(Er (YW (show ¬(Value.ref T==Value.none)=true from by simp)) (YS (j9 _ X λh' lv X'=>wpAny_throw (k h' lv X')))))
theorem dC.mono {P':Addr->Prop} (X:dC h P a nm) (k:∀b o vs,o.data = .fields vs->h.get? b=some o->h'.get? b=some o) (kp:∀b,P b->P' b):dC h' P' a nm:=by
 refine aM λG g=>?_
 obtain⟨pa,oe,vs,C,m,he,hc,hd,hn,hm,T,oT,ts,h1,ne,eT,vi,sz,pT⟩:=X;refine g ?_;exact⟨kp _ pa,oe,vs,C,m,k _ _ _ hd he,hc,hd,hn,hm,T,oT,ts,h1,ne,k _ _ _ vi eT,vi,sz,kp _ pT⟩
theorem mF (Bs:A.frames=some (e0::dU)) (Bt:e0.frame=env.frame) (hl:s.heap.FunFrames B (e0::dU)) (hf:env.frame=some L) (X:iF s.heap P a nm) (hP:∀b,s.heap.get? b=none->P b)
  (k:∀h',Lv P (λb=>b∈(e0::dU).filterMap (·.frame)) s.heap h'->dC h' P a nm->Q () {s with heap:=h'}):
  wpAny M A (noteFrame (.ref a) env) (λac s'=>wpAny M A (setFlight (.ref a) none) Q E s') E s:=
 pA Bs Bt hl hf X hP λh₁ x Ma=>j9 (s:= {s with heap:=h₁}) none Ma λiZ z lN=>k iZ (x.trans z) lN
theorem xY (X:dC s.heap P a nm) (k:∀h',Lv P (λac=>False) s.heap h'->dC h' P a nm->Q () {s with heap:=h'}):wpAny M A (setFlight (.ref a) none) Q E s:=j9 none X k
end
section
variable {y:Lay} {bv bv':List Nat} {own af:Addr->Option Nat} {Z Z':Addr->Prop} {s s':Shared} {h':Heap} {fr:Fm} {P fs:Addr->Prop}
theorem zW (I:Inv y own Z s.heap fr) (x:Lv P fs s.heap h') (hp:∀b,P b-> ¬y.wr own b/\ ¬y.F b/\ ¬Z b) (hf:∀b,fs b->y.F b\/b=y.L) {l:Loc} (hl:y.loc i=some l):
  (∀v,im s.heap l v->im h' l v)/\(rH s.heap l->rH h' l):=by
 have np:¬P l.addr:=λp=>(hp _ p).1 (.inr (.inr ⟨i,l,hl,rfl⟩))
 by_cases q:fs l.addr
 .have hL:l.addr=y.L:=(hf _ q).elim (λf=>absurd f (I.wf.nf i l hl)) id
  cases l with
  |dict b x'=>exact⟨λv ⟨m,hn,hm⟩=>⟨m,f4 hn λo=>x.slot b o q np,hm⟩,λ⟨m,hn⟩=>⟨m,f4 hn λo=>x.slot b o q np⟩⟩
  |cell b=>exact absurd hL (I.wf.cl i b hl)
 .exact⟨λv r=>r.keeps λo e=>x.keep _ o e np q,λr=>r.keeps λo e=>x.keep _ o e np q⟩
theorem Inv.lv (I:Inv y own Z s.heap fr) (x:Lv P fs s.heap h') (hp:∀b,P b-> ¬y.wr own b/\ ¬y.F b/\ ¬Z b) (hf:∀b,fs b->y.F b\/b=y.L):Inv y own Z h' fr:=by
 have kz:∀a o,Z a->s.heap.get? a=some o->h'.get? a=some o:=λa o z e=>x.keep a o e (λp=>(hp a p).2.2 z) λf=>(hf a f).elim (I.zF a z) λq=>I.zL (q▸z)
 have ko:∀a o,own a≠none->s.heap.get? a=some o->h'.get? a=some o:=λa o z e=>x.keep a o e (λp=>(hp a p).1 (.inl z)) λf=>(hf a f).elim (I.oF a z) λq=>z (q▸I.oL)
 refine⟨I.wf,λa o e=>kz a o (I.zb a o e) (I.base a o e),I.zb,I.zo,I.zl,I.ol,I.zL,I.oL,I.zF,I.oF,λa z=>?_,λa z=>?_,λa f=>?_,λi l hl=>(zW I x hp hf hl).2 (I.ok i l hl),?_,λi sl e n=>?_⟩
 .obtain⟨o,e⟩:=I.zlv a z;exact⟨o,kz a o z e⟩
 .obtain⟨o,e⟩:=I.olv a z;exact⟨o,ko a o z e⟩
 .obtain⟨o,Q⟩:=I.flv a f
  have np:¬P a:=λp=>(hp a p).2.1 f
  by_cases q:fs a
  .refine aQ (x.slot a o q np Q.1) λsl e'=>?_;exact⟨_,e',Q.2⟩
  .exact⟨o,x.keep a o Q.1 np q,Q.2⟩
 .obtain⟨m,hn⟩:=I.nsL
  have np:¬P y.L:=λp=>(hp _ p).1 (.inr (.inl rfl))
  by_cases q:fs y.L
  .exact⟨m,f4 hn λo=>x.slot _ o q np⟩
  .exact⟨m,hn.at' λo e=>x.keep _ o e np q⟩
 .obtain⟨l,v,hl,r,q⟩:=I.at' i sl e n
  exact⟨l,v,hl,(zW I x hp hf hl).1 v r,q.mono kz (λac z=>z) (λac z=>z) λa o z=>ko a o (by refine Er z ?_;exact λn=>by cases n)⟩
theorem Step.lv (S:Step y bv own Z s af Z' s') (I:Inv y af Z' s'.heap fr) (x:Lv P fs s'.heap h') (hp:∀b,P b->s.heap.get? b=none/\ ¬y.wr af b/\ ¬y.F b/\ ¬Z' b) (hf:∀b,fs b->y.F b\/b=y.L) :Step y bv own Z s af Z' {s' with heap:=h',toks:=tk} where
 sh:=by refine fW S.sh λh₁ Mr Q=>?_;subst Q;exact⟨_,_,rfl⟩
 ext:=⟨λa o e nw nf=>x.keep a o (S.ext.keep a o e nw nf) (λp=>by rw[(hp a p).1]at e;exact ah e) λf=>(hf a f).elim nf λq=>nw (.inr (.inl q)),
  λa o e=>let ⟨o',e'⟩:=S.ext.live a o e;x.live a o' e',
  λa o f e=>by
   refine aQ (S.ext.fram a o f e) λsl e'=>?_
   have np:¬P a:=λp=>(hp a p).2.2.1 f
   by_cases q:fs a
   .refine aQ (x.slot a _ q np e') λwN IZ=>?_;exact⟨wN,IZ⟩
   .exact⟨sl,x.keep a _ e' np q⟩⟩
 zm:=S.zm
 zn:=S.zn
 on:=S.on
 bind:=λi l v n hl r=>(zW I x (λb p=>(hp b p).2) hf hl).1 v (S.bind i l v n hl r)
theorem iL (I:Inv y own Z s.heap fr) (st:FX (λa=>y.F a\/a=y.L) A):∃l,A.frames=some l/\s.heap.FunFrames B l/\ ∀b∈l.filterMap (·.frame),y.F b\/b=y.L:=by
 obtain⟨l,hl,hk⟩:=st;refine⟨l,hl,?_,λb hb=>?_⟩
 .clear hl
  induction l with
  |nil=>trivial
  |cons e l ih=>
   obtain⟨h1,L,j⟩:=hk e (.head _);have h2:=j.1;have h3:=j.2;refine⟨h1,?_,ih λe he=>hk e (.tail _ he)⟩;have nz:¬Z L:=λz=>h3.elim (I.zF L z) λq=>I.zL (q▸z)
   have nb:B.get? L=none:=by
    cases q:B.get? L with
    |none=>rfl
    |some o=>exact absurd (I.zb L o q) nz
   rcases h3 with h3|h3
   .refine aQ (I.flv L h3) λo u=>?_;exact⟨L,o,h2,nb,u.1,u.2⟩
   .refine oI I.nsL λm o ac az Q=>?_;have ho:=Q.1;have hd:=Q.2.1;exact⟨L,o,h2,nb,h3▸ho,λvs q=>by have q:=hd▸q;cases q⟩
 .obtain⟨e,he,h1⟩:=List.mem_filterMap.mp hb
  obtain⟨_,L,U⟩:=hk e he;rw[U.1]at h1;exact Er (aF h1).symm U.2
inductive zV {β:Type} (y:Lay) (bv:List Nat) (own:Addr->Option Nat) (Z:Addr->Prop) (s:Shared) (out:Except Str β×Fm) (e:Value) (s':Shared):Prop
 |mk (nm:Str) (a:Addr) (af:Addr->Option Nat) (Z':Addr->Prop):out.1 = .error nm->e = .ref a->Inv y af Z' s'.heap out.2->Step y bv own Z s af Z' s'->dC s'.heap (λb=>s.heap.get? b=none/\ ¬y.wr af b/\ ¬y.F b/\ ¬Z' b) a nm->zV y bv own Z s out e s'
theorem aV.note {sc:Sc} {e:Value} {out:Except Str β×Fm} {R:Value->Shared->Prop} (x:aV y bv own Z s out e s') (en:aS A sc env y) (k:∀d4,zV y bv own Z s out e d4->R e d4):notedBy (model prog w) A env R e s':=by
 obtain⟨nm,a,af,Z',q,rfl,I,S,X⟩:=x;refine aM λG g=>?_
 refine fW en.top λe0 dU Q=>?_
 obtain⟨l,df,z⟩:=iL I en.stk;rw[Q.1]at df;obtain rfl:=aF df;refine g ?_;exact pA Q.1 Q.2 z.1 en.frame X (λb e=>⟨S.old b e,I.fresh e⟩) λiZ lv lN=>k _ ⟨nm,a,af,Z',q,rfl,I.lv lv (λb p=>p.2) z.2,S.lv I lv (λb p=>p) z.2,lN⟩
theorem aV.clr {γ:Type} {e:Value} {f:Fm} {l:List Nat} (x:aV y bv own Z s ((.error nm:Except Str β),f) e s'):aV y bv own Z s ((.error nm:Except Str γ),Mv.clr f l) e s':=by
 refine aM λG g=>?_
 obtain⟨HH,a,af,Z',q,e1,I,S,X⟩:=x;cases q;refine g ?_;exact⟨nm,a,af,Z',rfl,e1,I.clr l,S,X⟩
theorem kT {sc:Sc} {e:Value} {out:Except Str β×Fm} (en:aS A sc env y) (k:∀e s',aV y bv own Z s out e s'->E e s') (x:aV y bv own Z s out e s'):
  notedBy (model prog w) A env (λe d4=>cameBackBy (model prog w) A env E e d4) e s':=
 x.note en λaA p=>by
  obtain⟨nm,a,af,Z',q,rfl,aC,aU,lN⟩:=p;exact YS (dC.tb lN λT=>(Er (YW (show ¬(Value.ref T==Value.none)=true from by simp)) (j9 (fs:=λac=>False) _ lN λpV pL zN=>k _ _ ⟨nm,a,af,Z',q,rfl,aC.lv pL (λb p=>p.2) λac f=>f.elim,aU.lv aC pL (λb p=>p) λac f=>f.elim,zN.is⟩)))
end
section
variable {A:Around} {c:dj} {n:Nat} {env:Env} {sc:Sc} {y:Lay}
 {bv bv':List Nat} {own ae:Addr->Option Nat} {Z aw:Addr->Prop} {s s₁:Shared} {fr av:Fm}
def JI (y:Lay) (bv:List Nat) (own:Addr->Option Nat) (Z:Addr->Prop) (s:Shared) (out:Except Str Bool×Fm) (b:Bool) (s':Shared):Prop:=
 ∃af Z',out.1 = .ok b/\Inv y af Z' s'.heap out.2/\Step y bv own Z s af Z' s'
theorem oR {Q:Bool->Shared->Prop} :∀ {d9:List Expr},Q false s->
  wpAny (model prog w) A (forIn d9 false λc r=>if r=true then do let ok <- isTrue c env (eval c env);pure (ForInStep.yield ok) else pure (ForInStep.yield r)) Q E s:=by
 intro es h
 induction es generalizing h with
 |nil=>exact YO h
 |cons e es ih=>
  simp only[forIn_cons,false_eq_true,if_false];exact YS (YO (ih h))
theorem jM:∀ {d9:List Expr} {aq:List Ex},F2 (λe x=>ST A c y (isTrue e env (eval e env)) x) d9 aq-> ∀(own:Addr->Option Nat) (Z:Addr->Prop) (s:Shared) (fr:Fm) (out:Except Str Bool×Fm),dx c aq fr=some out->Inv y own Z s.heap fr->
  wpAny (model prog w) A (forIn d9 true λc r=>if r=true then do let ok <- isTrue c env (eval c env);pure (ForInStep.yield ok) else pure (ForInStep.yield r)) (JI y (bC aq) own Z s out) (aV y (bC aq) own Z s out) s:=by
 intro es xs F
 induction es generalizing xs with
 |nil=>
  cases xs with
  |nil=>
    intro own Z s fr out h I;exact Er (aF h).symm (YO ⟨own,Z,rfl,I,.refl⟩)
  |cons x1 x2=>exact F.elim
 |cons e es ih=>
  cases xs with
  |nil=>exact F.elim
  |cons x xs=>
    intro own Z s fr out h I;rw[i6]at h;simp only[forIn_cons,if_true];refine YS (YS (kC (bv:=aG x) (bv':=aG x++bC xs) h .refl bQ (λr an h=>?_) (λo e hd=>F.1 own Z s fr o e hd I) λr d av ae aw s₁ h hd ay ba S=>?_))
    .split at h
     .exact ah h
     .exact⟨_,by assumption⟩
    .rw[hd]at h
     dsimp only at h;refine YO ?_;cases ht:tD d with
     |true=>
      rw[ht,YV rfl]at h;refine YR (ih F.2.2 ae aw s₁ av out h ay) (λb s' p=>?_) λe s' p=>p.sub de S
      exact fW p λaf Z' p=>(⟨af,Z',p.1,p.2.1,S.trans (p.2.2.sub de)⟩)
     |false=>
      rw[ht,YW Z6]at h;exact Er (aF h).symm (oR ⟨ae,aw,rfl,ay,S⟩)
theorem sE:∀ {is:List Nat} {fr:Fm} {j:Nat},(∀sl,fr[j]? = some sl->sl = .no)\/j∈is-> ∀sl,(clr fr is)[j]? = some sl->sl = .no
 |[],fr,j,h=>h.elim id λq=>nomatch q
 |i::is,fr,j,h=>sE (is:=is) (fr:=fr.set i .no) (by
  rcases h with h|h
  .exact .inl λsl e=>(eG e).elim (λq=>q.2) λq=>h sl q.2
  .rcases mem_cons.mp h with rfl|h
   .exact .inl λsl e=>(eG e).elim (λq=>q.2) λq=>absurd rfl q.1
   .exact .inr h)
theorem CG.vars {vs:List Str} {t:fQ} (h:CG i g vs t) (h1:i<=j) (h2:j<i+vs.length):j∈aL t:=by
 cases h with
 |one=>exact List.mem_singleton.mpr (Zi (Nat.le_of_lt_succ h2) h1)
theorem sA {nA:Expr} {d9:List Expr} {it aE:Value} {env:Env} {R:Result->Shared->Prop} (I:Nat->Shared->Prop)
  (Kr:∀n s,I n s->wpAny (model prog w) A (pyNext it) (λr s₁=>match r with
   |none=>R (.ok .next) s₁
   |some v=>wpAny (model prog w) A (letOwnedTupleGo nA it v) (λac s₁=>wpAny (model prog w) A (assign nA env v) (λac aA=>
     wpAny (model prog w) A (forIn d9 true λc r=>if r=true then do let ok <- isTrue c env (eval c env);pure (ForInStep.yield ok) else pure (ForInStep.yield r)) (λok nE=>
      if ok=true then wpAny (model prog w) A (eval cb env) (λx lW=>
       wpAny (model prog w) A (call (.builtin "list.append") [aE,x]) (fun ac ri=> ∃m,m < n∧I m ri) (notedBy (model prog w) A env fun e s'=>R (.error e) s') lW) (notedBy (model prog w) A env fun e s'=>R (.error e) s') nE
      else ∃m,m<n/\I m nE) (notedBy (model prog w) A env λe s'=>R (.error e) s') aA) (notedBy (model prog w) A env λe s'=>R (.error e) s') s₁) (notedBy (model prog w) A env λe s'=>R (.error e) s') s₁) (notedBy (model prog w) A env λe s'=>R (.error e) s') s)
  (n:Nat) (h:I n s):codeAny (model prog w) A (.compLoop (.ListComp cb [⟨nA,iter,d9,0⟩] scope pos) 0 it aE env) R s:=by
 refine codeAny_loop rfl I (λn s hI=>?_) n h;show wpAny _ A ((compTurn (.ListComp cb [⟨nA,iter,d9,0⟩] scope pos) 0 it aE env).onRaise (λx=>do noteFrame x env;theTreesLotGoes x)) _ _ s
 refine wpAny_noted ?_;rw[compTurn_list];refine YS (wpAny_standAt (YS (YR (Kr n s hI) (λr s₁ h₁=>?_) λac az h'=>h')));cases r with
 |none=>exact YO h₁
 |some v=>
  refine YS (YR h₁ (λac aA h₁=>YS (YR h₁ (λac aA iZ=>YS (YR iZ (λok nE pV=>?_) λac az h'=>h')) λac az h'=>h')) λac az h'=>h');cases ok with
  |false=>exact YO ⟨rfl,pV⟩
  |true=>exact YS (YS (YR pV (λx lW KW=>YS (YR KW (λac ri yu=>YO (YO ⟨rfl,yu⟩)) λac az h'=>h')) λac az h'=>h'))
theorem Fv {vs:List Str} {t:fQ} {v:Value} {d:D} {fr an:Fm} {Q:Unit->Shared->Prop} (cg:CG i g vs t) (en:aS A sc env y) (hh:A.handled=none)
  (hv:∀k v,vs[k]? = some v->sc.vars.lookup v=some (i+k)/\env.kindOf v=some .local/\y.loc (i+k)=some (.dict C v))
  (he:asgT c.pin fr t (.fz d)=some an) (I:Inv y own Z s.heap fr) (R:bS s.heap Z v d)
  (K:∀h' tk,Inv y own Z h' an->Step y (aL t) own Z s own Z {s with heap:=h',toks:=tk}->Q () {s with heap:=h',toks:=tk}):wpAny (model prog w) A (assign g env v) Q E s:=by
 cases cg with
 |one=>
  obtain⟨h1,z⟩:=hv 0 _ rfl;obtain⟨_,rfl⟩:=KV he;exact wpAny_assign_Name (cZ en h1 (by refine Er z.1 ?_;intro q;cases q) z.2 I λh' tk P=>K h' tk (P.fz I z.2 R) (P.step z.2 I))
inductive JR (y:Lay) (bv:List Nat) (own:Addr->Option Nat) (Z:Addr->Prop) (s:Shared) (items:List D) (fp wr:List Addr) (P:Nat->Value->Prop) (St:Nat->Heap->Prop) (Da:Addr) (c:dj) (x:Ex) (t:fQ) (aq:List Ex) (out:Except Str Rv×Fm) (m:Nat) (s':Shared):Prop
 |mk (k:Nat) (af:Addr->Option Nat) (Z':Addr->Prop) (b4:Fm) (vs:List Value) (vM:List D):m=items.length+1-k->k<=items.length->Inv y af Z' s'.heap b4->Step y bv own Z s af Z' s'->
   iv y items fp wr P St s.heap af Z' s'.heap k->dE y af Z' s.heap s'.heap Da->s'.heap.PlainList Da vs.toArray->ao s'.heap Z' vs vM->vM.length<=k->
   ud (aL t) (aZ c b4 x t aq (items.drop k)) (λKd fr=>some (.ok (.own (.list (vM++Kd))),fr))=some out->JR y bv own Z s items fp wr P St Da c x t aq out m s'
set_option tactic.hygienic true in
theorem vT {F9:List Str} {t:fQ} {d9:List Expr} {aq:List Ex} {x:Ex} {out:Except Str Rv×Fm} {It Da:Addr} {items:List D} {fp wr:List Addr} {P:Nat->Value->Prop} {St:Nat->Heap->Prop} {R:Result->Shared->Prop}
  (cg:CG i g F9 t) (Oq:A.handled=none) (en:aS A sc env y) (hv:∀k v,F9[k]? = some v->sc.vars.lookup v=some (i+k)/\env.kindOf v=some .local/\y.loc (i+k)=some (.dict C v)) (hX:SE A c y (eval cb env) x) (hC:F2 (λe x=>ST A c y (isTrue e env (eval e env)) x) d9 aq)
  (L8:∀j∈aL t,j∈bv) (Kf:∀j∈aG x,j∈bv) (Kg:∀j∈bC aq,j∈bv) (W:Wk A It items fp wr P St) (bH:items.length<=Sz) (vg:Da∉fp) (sD:s.heap.get? Da=none)
  (ay:Inv y ae aw s₁.heap av) (ba:Step y bv own Z s ae aw s₁) (CX:iv y items fp wr P St s.heap ae aw s₁.heap 0) (C5:dE y ae aw s.heap s₁.heap Da) (yI:s₁.heap.PlainList Da ([]:List Value).toArray)
  (h:ud (aL t) (aZ c av x t aq items) (λds fr=>some (.ok (.own (.list ds)),fr))=some out)
  (KE:∀nm f e s',out=(.error nm,clr f (aL t))->zV y bv own Z s out e s'->R (.error e) s')
  (K:∀(s':Shared) (af:Addr->Option Nat) (Z':Addr->Prop) (ds:List D) (b4:Fm),out=(.ok (.own (.list ds)),clr b4 (aL t))->Inv y af Z' s'.heap b4->Step y bv own Z s af Z' s'->dE y af Z' s.heap s'.heap Da->cq s'.heap Z' Da (.list ds)->R (.ok .next) s'):
  codeAny (model prog w) A (.compLoop (.ListComp cb [⟨g,iter,d9,0⟩] scope pos) 0 (.ref It) (.ref Da) env) R s₁:=by
 refine EF (JR y bv own Z s items fp wr P St Da c x t aq out) λJ je ji=>?_
 refine sA J ?_ (items.length+1)
  (ji _ _ ⟨0,ae,aw,av,[],[],rfl,Y8 _,ay,ba,CX,C5,yI,.nil,Y8 _,by refine Er ZI ?_;exact h⟩)
 clear h ay ba CX C5 yI;intro m s' jq;obtain⟨k,af,Z',b4,vs,vM,rfl,f5,I',S',CY,Mf,CF,RA,J8,hh⟩:=je _ _ jq;clear jq je
 by_cases tJ:k<items.length
 .clear K
  have hd:=ZG tJ;rw[ZJ tJ]at hh;generalize items[k]=d at hd hh;rw[lF]at hh;refine mD W CY I' S' hd (λac az p=>p) λval ri zM Ch ul uj Cf sS Cw xZ=>?_
  have kD:∀o,s'.heap.get? Da=some o->ri.heap.get? Da=some o:=λo e=>xZ Da o (λhm=>vg (W.sub Da hm)) e
  have C4:=Cw Da Mf λhm=>vg (W.sub Da hm)
  have yz:=CF.at kD;have Io:vs.length<=items.length:=by exact Er RA.length (Ln [vM.length,items.length,k] (.w .x .y) [Gl .z .y,Gl .x .z] rfl f5 J8)
  have C1:=RA.mono (λa o z=>xZ a o λq=>(CY.wr a q).2.2.2.1 z) Ch;clear kD CF Mf RA S' CY I' xZ Cw Ch;have qU:=Cf.clr (aL t);generalize clr b4 (aL t)=fr₅ at hh qU
  split at hh
  .exact ah hh
  .rename_i tQ yB
   refine Fv cg en Oq hv yB qU ul λIl tk gr JE=>?_
   have qS:=sS.trans (JE.sub L8);have CV:=uj.step W qU JE;obtain⟨C3,CA⟩:=JE.loose C4;have yy:=yz.at CA;have C0:=JE.repAll qU C1;clear JE CA yz C1 C4 uj sS ul qU yB
   rcases IG:dx c aq tQ with _|⟨e7|b,fr₇⟩
   .have hh:=IG▸hh;exact ah hh
   .rw[IG]at hh
    obtain rfl:=aF hh;exact YR (jM hC af zM {ri with heap:=Il,toks:=tk} _ _ IG gr) (λb' rg p=>by refine fW p λac az p=>?_;exact pQ p.1) λac az x=>(x.up (γ:=Rv) Kg qS).clr.note en λd4 p=>KE _ _ _ _ rfl p
   .rw[IG]at hh
    refine YR (jM hC af zM {ri with heap:=Il,toks:=tk} _ _ IG gr) (λb' rg p=>?_) λac az x=>x.elim
    refine fW p λf7 oD p=>?_;have q:=p.1;have jI:=p.2.1;have CZ:=p.2.2
    refine Er (lQ q).symm ?_;have lO:=qS.trans (CZ.sub Kg);have zO:=CV.step W gr CZ;obtain⟨zX,Cz⟩:=CZ.loose C3;have r4:=yy.at Cz;have zU:=CZ.repAll gr C0;clear CZ Cz yy C0 C3 CV qS gr;rw[fP]at hh;cases b with
    |false=>
     rw[YW Z6]at hh ⊢;exact⟨items.length+1-(k+1),kr f5,ji _ _ ⟨k+1,f7,oD,fr₇,vs,vM,rfl,tJ,jI,lO,zO,zX,r4,zU,Nat.le_succ_of_le J8,hh⟩⟩
    |true=>
     rw[YV rfl]at hh ⊢
     rcases IB:ev c x fr₇ with _|⟨e8|r,fr₈⟩
     .rw[IB]at hh;exact ah hh
     .rw[IB]at hh
      obtain rfl:=aF hh;exact YR (hX f7 oD rg _ _ IB jI) (λval Ai p=>by obtain⟨_,_,_,q,_⟩:=p;exact pQ q) λac az x=>(x.up (γ:=Rv) Kf lO).clr.note en λd4 p=>KE _ _ _ _ rfl p
     .have hh:=IB▸hh;rw[fP]at hh
      refine YR (hX f7 oD rg _ _ IB jI) (λval Ai p=>?_) λac az x=>x.elim
      obtain⟨r',xg,O4,q,JN,Nv,JF⟩:=p;obtain rfl:=lQ q;cases hr:bU r with
      |none=>rw[hr]at hh;exact ah hh
      |some d'=>
       have hh:=hr▸hh;obtain⟨FL,Mg,JD,Mc⟩:=JF.freeze JN Nv hr;have Mb:=lO.trans (JD.sub Kf);have JC:=zO.step W jI JD;obtain⟨ur,Cy⟩:=JD.loose zX;have EB:=r4.at Cy;have JH:=JD.repAll jI zU;clear JD Cy r4 zU zX zO lO jI JF JN Nv;refine wpAny_list_append_plain (hsz:=by refine Er Zj (Er bb.symm ?_);exact(Ln [vs.length,items.length] (.w .x (.c 16777216)) [Gl .y (.c 16777216),Gl .x .y] rfl bH Io)) EB λtI pZ yv=>?_
       have kp:∀b o, ¬b=Da->Ai.heap.get? b=some o->tI.get? b=some o:=λb o q e=>yv.extBut b o q e
       have tM:∀b,b=Da-> ¬y.wr xg b/\ ¬y.F b/\ ¬FL b:=λb q=>by subst q;exact⟨ur.2.1,ur.2.2.1,ur.2.2.2.1⟩
       have kz:∀a o,FL a->Ai.heap.get? a=some o->tI.get? a=some o:=λa o z e=>kp a o (λq=>(tM a q).2.2 z) e
       refine⟨items.length+1-(k+1),kr f5,ji _ _ ⟨k+1,xg,FL,fr₈,vs++[val],vM++[d'],rfl,tJ,Mg.other tM kp,Mb.other (tk:=Ai.toks) (X:=λb=>b=Da) (λb q=>⟨q▸sD,(tM b q).1⟩) kp,
        JC.other W (X:=λb=>b=Da) (λb q=>⟨(tM b q).2.2,q▸vg⟩) kp,ur.other (let ⟨n,e⟩:=pZ;⟨_,e⟩),by simpa using pZ,(JH.mono kz λac z=>z).append (.cons (Mc.mono kz λac z=>z) .nil),by refine Er ZE ?_;simp;exact J8,?_⟩⟩
       rcases LH:aZ c fr₈ x t aq (items.drop (k+1)) with _|⟨_|Kd,f⟩
       .have hh:=LH▸hh;exact ah hh
       .rw[LH]at hh;exact hh
       .rw[LH]at hh
        refine Eq.trans ?_ hh;show some ((Except.ok (Rv.own (.list (vM++[d']++Kd))):Except Str Rv),f)=some (Except.ok (Rv.own (.list (vM++d'::Kd))),f)
        rw[ZM];rfl
 .have Lm:k=items.length:=Zi f5 (Nat.not_lt.mp tJ)
  subst Lm;rw[List.drop_length,bc]at hh;have vf:=(Y5 hh).symm;rw[ZL]at vf;refine mE W CY I' S' λd4 zY GA kp ac=>?_
  have kD:∀o,s'.heap.get? Da=some o->d4.heap.get? Da=some o:=λo e=>kp Da o (λhm=>vg (W.sub Da hm)) e
  have kz:∀a o,Z' a->s'.heap.get? a=some o->d4.heap.get? a=some o:=λa o z=>kp a o λq=>(CY.wr a q).2.2.2.1 z
  obtain⟨n,e⟩:=CF.at kD;exact K d4 af Z' vM b4 vf zY GA (Mf.other (h':=d4.heap) ⟨_,e⟩) (.list e (by refine Er RA.length ?_;exact(Ln [vM.length,items.length] (.w .x (.c 16777216)) [Gl .y (.c 16777216),Gl .x .y] rfl bH J8)) (RA.mono kz λac z=>z))
set_option tactic.hygienic true in
theorem lE {vs:List Str} {t:fQ} {jR:Pos} {d9:List Expr} {it:iU} {bN aq:List Ex} {x:Ex} {out:Except Str Rv×Fm} {use:Option (Value->Sem Unit)} {Q:Value->Shared->Prop} 
  (cg:CG i g vs t) (hh:c.hd=false->A.handled=none) (en:aS A sc env y) (ok:gU scope sc vs) (hi:sc.hi<=i) (hI:SI A c y (eval iter env) it bN) (yC:∀v,foldedSetIterable iter env v=pure v)
  (hX:∀env y,aS A (bG scope sc vs i) env y->SE A c y (eval cb env) x) (hC:∀env y,aS A (bG scope sc vs i) env y->F2 (λe x=>ST A c y (isTrue e env (eval e env)) x) d9 aq)
  (h:ev c (.comp x t it bN aq) fr=some out) (I:Inv y own Z s.heap fr)
  (hE:∀e s',aV y (aG (.comp x t it bN aq)) own Z s out e s'->E e s')
  (K:∀(Da C:Addr) (s':Shared) (af:Addr->Option Nat) (Z':Addr->Prop) (ds:List D) (b4:Fm) (m:Str->Option Value),out=(.ok (.own (.list ds)),b4)->Inv y af Z' s'.heap b4->Step y (aG (.comp x t it bN aq)) own Z s af Z' s'->
   fB y af Z' s.heap s'.heap (.own (.list ds)) (.ref Da)->dE y af Z' s.heap s'.heap C->s'.heap.Ns C m->Da≠C->compPost (model prog w) A E use Q (.ref Da) C (.ok .next) s'):
  wpAny (model prog w) A (comprehension (.ListComp cb [⟨g,iter,d9,0⟩] scope pos) scope env jR (newList []) false (eval iter env) use) Q E s:=by
 have CD:∀j l,y.loc j=some l->j<i:=λj l e=>Ze (en.hi j l e) hi
 rw[t7]at h;cases gL:c.hd with
 |true=>rw[gL]at h;exact ah h
 |false=>
 rw[gL]at h;have h:=(YW Z6)▸h;have L7:∀j∈bC bN,j∈aG (.comp x t it bN aq):=λj hj=>Zq _ (Zp _ hj)
 have Kf:∀j∈aG x,j∈aG (.comp x t it bN aq):=λj hj=>Zq _ (Zq _ (Zp _ hj))
 have Kg:∀j∈bC aq,j∈aG (.comp x t it bN aq):=λj hj=>Zp _ hj
 have L8:∀j∈aL t,j∈aG (.comp x t it bN aq):=λj hj=>Zq _ (Zq _ (Zq _ hj))
 generalize Pp:aG (.comp x t it bN aq)=bv at *;have BL:=λC=>(zu (C:=C) en ok hi)
 refine wpAny_comprehension_free (use:=use) rfl yC (BL 0).1 ok.kind ok.names ?_
 rcases aX h with⟨e,f,hm,rfl⟩|⟨rs,av,hm,h⟩
 .refine YR (hI own Z s fr _ hm (λrs q=>by exact pQ q) gL I) (λx s₁ p=>YR p (λGc aA p=>?_) λac az x=>hE _ _ (x.up L7 .refl)) λac az x=>hE _ _ (x.up L7 .refl)
  obtain⟨_,_,_,_,_,_,_,_,_,_,q,_⟩:=p;exact pQ q
 .split at h
  .exact ah h
  .rename_i ds lT
   split at h
   .exact ah h
   .rename_i items lc
    refine YR (hI own Z s fr _ hm (λrs q=>by refine Er (lQ q).symm ?_;exact⟨ds,items,lT,lc⟩) gL I) (λxv s₁ p=>YR p (λGc aA p=>?_) λac az x=>x.elim) λac az x=>x.elim
    obtain⟨KB,ke,Ey,ae,aw,It,fp,wr,P,St,q,yF,yA,bH,rfl,aC,aU,W,WA⟩:=p;obtain rfl:=lQ q;rw[lT]at yF;obtain rfl:=aF yF;rw[lc]at yA;obtain rfl:=aF yA;dsimp only at aC;have aU:=aU.sub L7
    -- the list and the block
    refine YQ (wpAny_newFunctionEnv ok.cell (by intro z hz; cases hz) (fun h₁ r5 n7=>?_) ok.kind);dsimp only at r5 n7 ⊢;generalize LL:aA.heap.push {cls:=.type "list",dict:=none,data:=.seq ([] :List Value).toArray} = H2 at r5 n7 ⊢
    let Da:=aA.heap.objs.size
    let C:=H2.objs.size
    have hsz:H2.objs.size=aA.heap.objs.size+1:=by refine Er LL.symm ?_;rw[Heap.size_push]
    have CL:Da≠C:=by show aA.heap.objs.size≠H2.objs.size;exact(λHK=>(Lf [H2.objs.size,aA.heap.objs.size] [Gf .x (.p 1 .y),Gf .y .x] rfl hsz HK))
    have nC:aA.heap.get? C=none:=by
     cases e:aA.heap.get? C with
     |none=>rfl
     |some o=>have:=ZV e;exact absurd this (by show ¬H2.objs.size<_;exact(λHJ=>(Lf [H2.objs.size,aA.heap.objs.size] [Gf .x (.p 1 .y),Gl (.p 1 .x) .y] rfl hsz HJ)))
    have nD:aA.heap.get? Da=none:=yK _;have old:∀b o,aA.heap.get? b=some o->h₁.get? b=some o:=λb o e=>by
     exact n7.extBut b o (ne_of_lt (Nat.lt_trans (ZV e) (by refine Er hsz ?_;exact lt_succ_self _))) (ZY _ (LL▸ZY _ e))
    have yI:h₁.PlainList Da ([]:List Value).toArray:=⟨_,n7.extBut _ _ CL (ZY _ (LL▸ZX _ rfl))⟩
    have sC:=aU.old _ nC;have sD:=aU.old _ nD;have vg:Da∉fp:=λhm=>by obtain⟨o,e⟩:=W.lv 0 _ WA.st Da hm;rw[nD]at e;exact ah e
    -- the turns
    let lW:Shared:= {aA with heap:=h₁,toks:=aA.toks+([]:List (Str×Value)).length}
    have lp:∀ {b:Addr},dE y ae aw s.heap aA.heap b->dE (y.puts C i vs) ae aw s.heap lW.heap b:=fun {b} l=>by
     obtain⟨l1,l2,l3,l4,o,l5⟩:=l;exact⟨l1,λq=>(rt q).elim l2 (λq=>by rw[q,nC]at l5;exact ah l5),l3,l4,o,old b o l5⟩
    have CW:iv (y.puts C i vs) items fp wr P St s.heap ae aw lW.heap 0:=
     ⟨W.frame 0 _ _ WA.st λb ac o e=>old b o e,λb hb=>(WA.fp b hb).imp id lp,λb hb=>lp (WA.wr b hb),λj v hj p=>let ⟨d,e,r⟩:=WA.it j v hj p;⟨d,e,r.mono (λa o ac=>old a o) λac z=>z⟩⟩
    have LD:dE (y.puts C i vs) ae aw s.heap lW.heap Da:=⟨sD,λq=>(rt q).elim (aC.fresh nD).1 λq=>CL q,(aC.fresh nD).2.1,(aC.fresh nD).2.2,let ⟨n,e⟩:=yI;⟨_,e⟩⟩
    have HZ:codeAny (model prog w) A (.compLoop (.ListComp cb [⟨g,iter,d9,0⟩] scope pos) 0 (.ref It) (.ref Da) (compEnvC scope (qZ env scope.names []) C env)) (compPost (model prog w) A E use Q (.ref Da) C) lW:=by
     have CR:∃v,vs[0]? = some v:=by cases cg<;>exact⟨_,rfl⟩
     refine aQ CR λv0 CR=>?_
     have CR:=nP (y:=y) (C:=C) (i:=i) CR;have LC:∀ {af:Addr->Option Nat} {Z':Addr->Prop} {d4:Shared} {b4:Fm},Inv (y.puts C i vs) af Z' d4.heap b4->dE y af Z' s.heap d4.heap C/\ ∃m,d4.heap.Ns C m:=λzY=>by
      refine aQ (zY.ok _ _ CR) λm hm=>?_
      refine⟨⟨sC,λq=>?_,zY.wf.nf _ _ CR,zY.zl _ _ CR,let ⟨o,_,_,e,_⟩:=hm;⟨o,e⟩⟩,m,hm⟩
      rcases q with q|q|⟨j,l,hl,q⟩
      .exact q (zY.ol _ _ CR)
      .refine oI aC.nsL λm o ac az u=>?_;have e:=u.1;rw[<- q,nC]at e;exact ah e
      .obtain⟨o,e⟩:=(aC.ok j l hl).live;rw[q,nC]at e;exact ah e
     refine vT (C:=C) cg (hh gL) ((BL C).2) (λk v e=>⟨pN (us ok.vnd e),lookup_relabel_local (ok.loc v (Zm e)),nP e⟩) (hX _ _ ((BL C).2)) (hC _ _ ((BL C).2)) L8 Kf Kg W bH vg sD ((aC.grow old).put CD ok.vnd (aC.fresh nC).1 (aC.fresh nC).2.1 (aC.fresh nC).2.2 r5) ((aU.trans (.grow old)).put CD sC) CW LD yI h (λnm f e d4 vf p=>?_) λd4 af Z' vM b4 vf zY GA FV OA=>?_
     .obtain⟨HH,a,af,Z',q,rfl,I',S',X⟩:=p
      obtain⟨JL,m,hm⟩:=LC I';refine⟨m,hm,λh' sb O2 ac=>?_⟩;have tM:∀b,b=C-> ¬y.wr af b/\ ¬y.F b/\ ¬Z' b:=λb q=>by subst q;exact⟨JL.2.1,JL.2.2.1,JL.2.2.2.1⟩
      have kp:∀b o, ¬b=C->d4.heap.get? b=some o->h'.get? b=some o:=λb o q e=>sb.extBut b o q e
      have I1:Inv y af Z' h' out.2:=(I'.unput I.wf CD λj h1 h2=>by refine Er vf ?_;exact sE (.inr (cg.vars h1 h2))).other tM kp;have S1:Step y bv own Z s af Z' {d4 with heap:=h'}:=(S'.unput CD sC).other (tk:=d4.toks) (X:=λb=>b=C) (λb q=>⟨q▸sC,(tM b q).1⟩) kp;have X1:dC h' (λb=>s.heap.get? b=none/\ ¬y.wr af b/\ ¬y.F b/\ ¬Z' b) a HH:=X.mono (λb o vs hd e=>kp b o (λq=>by refine jm hm λo' ac az hm=>?_;have e':=hm.1;have di:=hm.2.1;rw[q,e']at e;obtain rfl:=aF e;have hd:=di▸hd;cases hd) e) λb h=>⟨h.1,λq=>h.2.1 (q8 CD q),h.2.2.1,h.2.2.2⟩
      exact w8 (s:= {d4 with heap:=h'}) X1 λpV lv zN=>hE _ _ ⟨HH,a,af,Z',q,rfl,Inv.lv (s:= {d4 with heap:=h'}) I1 lv (λb p=>p.2) λac f=>f.elim,S1.lv I1 lv (λb p=>p) λac f=>f.elim,zN.is⟩
     obtain⟨JL,m,hm⟩:=LC zY;exact K Da C d4 af Z' vM _ m vf ((zY.clr (aL t)).unput I.wf CD λj h1 h2=>sE (.inr (cg.vars h1 h2))) (GA.unput CD sC) ⟨Da,rfl,sD,λq=>FV.2.1 (q8 CD q),FV.2.2.1,FV.2.2.2.1,OA⟩ JL hm CL
    exact codeAny_compStart_list HZ (W.self 0 _ _ _ CW.st HZ)
theorem AD {vs:List Str} {t:fQ} {d9:List Expr} {it:iU} {bN aq:List Ex} {x:Ex}
  (cg:CG i g vs t) (hh:c.hd=false->A.handled=none) (en:aS A sc env y) (ok:gU scope sc vs) (hi:sc.hi<=i) (hI:SI A c y (eval iter env) it bN) (yC:∀v,foldedSetIterable iter env v=pure v)
  (hX:∀env y,aS A (bG scope sc vs i) env y->SE A c y (eval cb env) x) (hC:∀env y,aS A (bG scope sc vs i) env y->F2 (λe x=>ST A c y (isTrue e env (eval e env)) x) d9 aq):
  SE A c y (eval (.ListComp cb [⟨g,iter,d9,0⟩] scope pos) env) (.comp x t it bN aq):=by
 intro own Z s fr out h I;rw[eval_ListComp];refine lE (use:=none) cg hh en ok hi hI yC hX hC h I (λac az x=>x) λD C s' af Z' ds b4 m ho I' S' R' LC hm CL=>?_
 subst ho;refine⟨m,hm,λh' hs=>?_⟩;obtain⟨a,q,R'⟩:=R';cases q;have kp:∀b o, ¬b=C->s'.heap.get? b=some o->h'.get? b=some o:=λb o q e=>hs.extBut b o q e
 have tM:∀b,b=C-> ¬y.wr af b/\ ¬y.F b/\ ¬Z' b:=λb q=>by subst q;exact⟨LC.2.1,LC.2.2.1,LC.2.2.2.1⟩
 exact⟨_,af,Z',rfl,I'.other tM kp,S'.other (X:=λb=>b=C) (λb q=>⟨q▸LC.1,(tM b q).1⟩) kp,_,rfl,R'.1,R'.2.1,R'.2.2.1,R'.2.2.2.1,R'.2.2.2.2.mono (λa o z=>kp a o λq=>(tM a q).2.2 z) (λac z=>z) λo e=>kp _ o CL e⟩
end
theorem F2.imp {P Q:Expr->Ex->Prop} (h:∀e x,P e x->Q e x):∀ {es:List Expr} {xs:List Ex},F2 P es xs->F2 Q es xs
 |[],[]=>@λac=>trivial
 |_::_,_::_=>@λF=>⟨h _ _ F.1,F.2.1,F.2.2.imp h⟩
 |[],_::_=>@λF=>F.elim
 |_::_,[]=>@λF=>F.elim
section
variable {A:Around} {c:dj} {n:Nat}
abbrev M1 (A:Around) (c:dj) (sc:Sc) (e:Expr) (x:Ex):Prop:= ∀(env:Env) (y:Lay),aS A sc env y->SE A c y (eval e env) x/\ST A c y (isTrue e env (eval e env)) x
abbrev M2 (A:Around) (c:dj) (sc:Sc) (es:List Expr) (xs:List Ex):Prop:= ∀(env:Env) (y:Lay),aS A sc env y->F2 (λe x=>CE sc e x/\SE A c y (eval e env) x/\ST A c y (isTrue e env (eval e env)) x) es xs
abbrev M3 (A:Around) (c:dj) (sc:Sc) (o:Option Expr) (x:Ex):Prop:= ∀(env:Env) (y:Lay),aS A sc env y->SE A c y (evalPart o env) x
abbrev M4 (A:Around) (c:dj) (sc:Sc) (e:Expr) (it:iU) (bN:List Ex):Prop:= ∀(env:Env) (y:Lay),aS A sc env y->SI A c y (eval e env) it bN
def MM (A:Around) (c:dj) (sc:Sc):Sy->Prop
 |.e e x=>M1 A c sc e x
 |.s es xs=>M2 A c sc es xs
 |.o o x=>M3 A c sc o x
 |.i e it bN=>M4 A c sc e it bN
theorem bA (R:Rn A c n):∀sc q,CQ sc q->MM A c sc q:=by
 have gS:∀ {sc:Sc} {e:Expr} {x:Ex},(∀env y,aS A sc env y->SE A c y (eval e env) x)->(∀env,isTrue e env (eval e env)=(do let v <- eval e env;standAt e.pos;holding [v] (truthy v)))->M1 A c sc e x:=
  λH he env y en=>⟨H env y en,.of (H env y en) (he env)⟩
 have p2:∀ {sc:Sc} {es:List Expr} {xs:List Ex} {env:Env} {y:Lay},F2 (λe x=>CE sc e x/\SE A c y (eval e env) x/\ST A c y (isTrue e env (eval e env)) x) es xs->F2 (λe x=>CE sc e x/\SE A c y (eval e env) x) es xs:=λF=>F.imp λac az h=>⟨h.1,h.2.1⟩
 have pe:∀ {sc:Sc} {es:List Expr} {xs:List Ex} {env:Env} {y:Lay},F2 (λe x=>CE sc e x/\SE A c y (eval e env) x/\ST A c y (isTrue e env (eval e env)) x) es xs->F2 (λe x=>SE A c y (eval e env) x) es xs:=λF=>F.imp λac az h=>h.2.1
 have pt:∀ {sc:Sc} {es:List Expr} {xs:List Ex} {env:Env} {y:Lay},F2 (λe x=>CE sc e x/\SE A c y (eval e env) x/\ST A c y (isTrue e env (eval e env)) x) es xs->F2 (λe x=>ST A c y (isTrue e env (eval e env)) x) es xs:=λF=>F.imp λac az h=>h.2.2
 have Jh:∀ {sc:Sc} {k:Const} {kk:Nat} {pos:Pos} {d:D} (a:eM k d),M1 A c sc (.Constant k kk pos) (.lit d):=λa=>gS (λenv y en=>DR a) λac=>rfl
 have I9:∀ {sc:Sc} {x:Str} {pos:Pos} {i:Nat} (a:sc.isV x i),M1 A c sc (.Name x pos) (.var i):=λa=>gS (λenv y en=>DK en a) λac=>rfl
 have LV:∀ {sc:Sc} {x:Str} {pos:Pos} {i:Nat} (a:sc.isV x i),M1 A c sc (.Name x pos) (.pl (.var i)):=λa=>gS (λenv y en=>GV en a) λac=>rfl
 have LX:∀ {sc:Sc} {x:Str} {pos:Pos} {k:Nat} (a:sc.isG x) (b:tb.gl[k]? = some x),M1 A c sc (.Name x pos) (.gl k):=λa b=>gS (λenv y en=>GX R en a b) λac=>rfl
 have Ja:∀ {sc:Sc} {es:List Expr} {k:Nat} {pos:Pos} {xs:List Ex} (a:wc sc es xs) (b:xs.length<=1000),M2 A c sc es xs->M1 A c sc (.Tuple es k pos) (.tup xs):=λa b ih=>gS (λenv y en=>DL (p2 (ih env y en)) b) λac=>rfl
 have Fy:∀ {sc:Sc} {es:List Expr} {pos:Pos} {xs:List Ex} (a:wc sc es xs) (b:xs.length<=1000),M2 A c sc es xs->M1 A c sc (.List es pos) (.list xs):=λa b ih=>gS (λenv y en=>AA (p2 (ih env y en)) b) λac=>rfl
 have Jd:∀ {sc:Sc} {a b:Expr} {pos:Pos} {o:lU} {x z:Ex} (h1:CE sc a x) (h2:CE sc b z) (h3:Apart x (aG z)),M1 A c sc a x->M1 A c sc b z->M1 A c sc (.BinOp a (xn o) b pos) (.op2 o x z):=
  λh1 h2 h3 i1 i2=>gS (λenv y en=>DO (i1 env y en).1 (i2 env y en).1 h3) λac=>rfl
 have Jg:∀ {sc:Sc} {a:Expr} {pos:Pos} {x:Ex} (h1:CE sc a x),M1 A c sc a x->M1 A c sc (.UnaryOp .USub a pos) (.neg x):=λh1 i1=>gS (λenv y en=>DQ (i1 env y en).1) λac=>rfl
 have Je:∀ {sc:Sc} {a:Expr} {pos:Pos} {x:Ex} (h1:CE sc a x),M1 A c sc a x->M1 A c sc (.UnaryOp .Not a pos) (.not x):=λh1 i1 env y en=>⟨DP (i1 env y en).1,Dq (i1 env y en).2⟩
 have Jm:∀ {sc:Sc} {a b:Expr} {pos:Pos} {o:Cm} {x z:Ex} (h1:CE sc a x) (h2:CE sc b z) (h3:Apart x (aG z)),M1 A c sc a x->M1 A c sc b z->M1 A c sc (.Compare a [fg o] [b] pos) (.cmp o x z):=
  λh1 h2 h3 i1 i2 env y en=>⟨DW R (i1 env y en).1 (i2 env y en).1 h3 (h2.noSet _),Ds R (i1 env y en).1 (i2 env y en).1 h3 (h2.noSet _)⟩
 have FD:∀ {sc:Sc} {a b e:Expr} {pos:Pos} {o p:Cm} {x z u:Ex} (h1:CE sc a x) (h2:CE sc b z) (h3:CE sc e u),M1 A c sc a x->M1 A c sc b z->M1 A c sc e u->M1 A c sc (.Compare a [fg o,fg p] [b,e] pos) (.cmp2 o p x z u):=
  λh1 h2 h3 i1 i2 i3 env y en=>⟨AE R (i1 env y en).1 (i2 env y en).1 (i3 env y en).1 (h3.noSet _),Al R (i1 env y en).1 (i2 env y en).1 (i3 env y en).1 (h3.noSet _)⟩
 have Jo:∀ {sc:Sc} {es:List Expr} {pos:Pos} {xs:List Ex} (a:wc sc es xs),M2 A c sc es xs->M1 A c sc (.BoolOp .And es pos) (.and xs):=λa ih env y en=>⟨DY (pe (ih env y en)),Dt (pt (ih env y en))⟩
 have LW:∀ {sc:Sc} {es:List Expr} {pos:Pos} {xs:List Ex} (a:wc sc es xs),M2 A c sc es xs->M1 A c sc (.BoolOp .Or es pos) (.or xs):=λa ih env y en=>⟨GW (pe (ih env y en)),GR (pt (ih env y en))⟩
 have Ji:∀ {sc:Sc} {t a b:Expr} {pos:Pos} {x z u:Ex} (h1:CE sc t x) (h2:CE sc a z) (h3:CE sc b u),M1 A c sc t x->M1 A c sc a z->M1 A c sc b u->M1 A c sc (.IfExp t a b pos) (.ite x z u):=
  λh1 h2 h3 i1 i2 i3 env y en=>⟨DS (i1 env y en).2 (i2 env y en).1 (i3 env y en).1,Dr (i1 env y en).2 (i2 env y en).2 (i3 env y en).2⟩
 have Jl:∀ {sc:Sc} {a i:Expr} {pos:Pos} {x z:Ex} (h1:CE sc a x) (h2:CE sc i z) (h3:Apart x (aG z)),M1 A c sc a x->M1 A c sc i z->M1 A c sc (.Subscript a i pos) (.idx x z):=
  λh1 h2 h3 i1 i2=>gS (λenv y en=>DV (i1 env y en).1 (i2 env y en).1 h3 h2.isPlain) λac=>rfl
 have Jb:∀ {sc:Sc} {a:Expr} {lo hi:Option Expr} {p pos:Pos} {x l u:Ex} (h1:CE sc a x) (h2:Mo sc lo l) (h3:Mo sc hi u) (h4:Apart x (aG l++aG u)),M1 A c sc a x->M3 A c sc lo l->M3 A c sc hi u->M1 A c sc (.Subscript a (.Slice lo hi none p) pos) (.slc x l u):=
  λh1 h2 h3 h4 i1 i2 i3=>gS (λenv y en=>DM (i1 env y en).1 (i2 env y en) (i3 env y en) h4) λac=>rfl
 have FE:∀ {sc:Sc} {f:Nat} {d:DefRec} {p pos:Pos} {args:List Expr} {xs:List Ex} (h1:tb.fn[f]? = some d) (h2:sc.isG d.name) (h3:wc sc args xs) (h4:args.length<=29),M2 A c sc args xs->M1 A c sc (.Call (.Name d.name p) args [] pos) (.call f xs):=
  λh1 h2 h3 h4 ih=>gS (λenv y en=>AF R en h1 h2 (p2 (ih env y en))) λac=>rfl
 have Jn:∀ {sc:Sc} {b:Bi} {p pos:Pos} {a:Expr} {x:Ex} (h1:b.one=true) (h2:sc.isG (dB b)) (h3:CE sc a x),M1 A c sc a x->M1 A c sc (.Call (.Name (dB b) p) [a] [] pos) (.bi b [x]):=
  λh1 h2 h3 i1=>gS (λenv y en=>DX R en h1 h2 h3 (i1 env y en).1) λac=>rfl
 have Jk:∀ {sc:Sc} {t:Ty} {p p' pos:Pos} {a:Expr} {x:Ex} (h1:sc.isG "isinstance") (h2:sc.isG (cy t)) (h3:CE sc a x),M1 A c sc a x→M1 A c sc (.Call (.Name "isinstance" p) [a,.Name (cy t) p'] [] pos) (.bi (.isi t) [x]):=
  λh1 h2 h3 i1=>gS (λenv y en=>DU R en h1 h2 h3 (i1 env y en).1) λac=>rfl
 have FC:∀ {sc:Sc} {cb iter g:Expr} {vs:List Str} {t:fQ} {pos:Pos} {d9:List Expr} {scope:Scope} {i:Nat} {it:iU} {bN aq:List Ex} {x:Ex} (h0:CG i g vs t) (h1:IT sc iter it bN) (h2:gU scope sc vs) (h3:sc.hi<=i) (h4:CE (bG scope sc vs i) cb x) (h5:wc (bG scope sc vs i) d9 aq) (h6:∀j∈aL t,j∉aG x/\j∉bC aq),
   M4 A c sc iter it bN->M1 A c (bG scope sc vs i) cb x->M2 A c (bG scope sc vs i) d9 aq->M1 A c sc (.ListComp cb [⟨g,iter,d9,0⟩] scope pos) (.comp x t it bN aq):=
  λh0 h1 h2 h3 h4 h5 h6 i1 i2 i3=>gS (λenv y en=>AD h0 R.hh en h2 h3 (i1 env y en) (h1.noFold env) (λenv y en=>(i2 env y en).1) λenv y en=>pt (i3 env y en)) λac=>rfl
 have Jj:∀ {sc:Sc} {x C:Str} {p p1 p2 pos:Pos} {i:Nat} {yes no:List Str} (h1:sc.isG "isinstance") (h2:sc.isV x i) (h3:sc.isG C) (h4:tb.sub.lookup C = some (yes,no)),M1 A c sc (.Call (.Name "isinstance" p) [.Name x p1,.Name C p2] [] pos) (.isx i yes no):=
  λh1 h2 h3 h4=>gS (λenv y en=>DT R en h1 h2 h3 h4) λac=>rfl
 have Fz:∀ {sc:Sc} {x:Str} {cs:List Str} {es:List Expr} {p p1 p2 pos:Pos} {k i:Nat} {yes no:List Str} (h1:sc.isG "isinstance") (h2:sc.isV x i) (h3:NS sc es cs) (h4:cs.length≤1000) (h5:tb.sbt.lookup cs = some (yes,no)),M1 A c sc (.Call (.Name "isinstance" p) [.Name x p1,.Tuple es k p2] [] pos) (.isx i yes no):=
  λh1 h2 h3 h4 h5=>gS (λenv y en=>AC R en h1 h2 h3 h4 h5) λac=>rfl
 have LZ:∀ {sc:Sc} {e:Expr} {b:Bi} {es:List Expr} {xs:List Ex} (h1:BX sc e b es) (h2:wc sc es xs),M2 A c sc es xs->M1 A c sc e (.bi b xs):=
  λh1 h2 ih=>gS (λenv y en=>GY R en h1 (p2 (ih env y en))) λac=>by cases h1<;>rfl
 have Jf:∀ {sc:Sc},M2 A c sc [] []:=λenv y en=>trivial
 have FA:∀ {sc:Sc} {e:Expr} {es:List Expr} {x:Ex} {xs:List Ex} (h1:CE sc e x) (h2:wc sc es xs) (h3:Apart x (bC xs)),M1 A c sc e x->M2 A c sc es xs->M2 A c sc (e::es) (x::xs):=
  λh1 h2 h3 i1 i2 env y en=>⟨⟨h1,i1 env y en⟩,h3,i2 env y en⟩
 have Fx:∀ {sc:Sc},M3 A c sc none (.lit .none):=fun {sc} env y en own Z s fr out h I=>by
  refine Er (aF h).symm ?_;exact wpAny_evalPart_none (.val I .refl .none)
 have Fw:∀ {sc:Sc} {e:Expr} {x:Ex} (h1:CE sc e x),M1 A c sc e x->M3 A c sc (some e) x:=λh1 i1 env y en own Z s fr out h I=>wpAny_evalPart_some ((i1 env y en).1 own Z s fr out h I)
 have Jc:∀ {sc:Sc} {e:Expr} {x:Ex} (h1:CE sc e x),M1 A c sc e x->M4 A c sc e .seq [x]:=λh1 i1 env y en=>DG R (i1 env y en).1
 have B7:∀ {sc:Sc} {p pos:Pos} {e:Expr} {x:Ex} (h0:sc.isG "range") (h1:CE sc e x),M1 A c sc e x→M4 A c sc (.Call (.Name "range" p) [e] [] pos) .range [x]:=fun h0 h1 i1 env y en=>wO R en h0 h1 (i1 env y en).1
 exact λsc q h=>@CQ.rec (λsc q ac=>MM A c sc q) Jh I9 LV LX Ja Fy Jd Jg Je Jm FD Jo LW Ji Jl Jb FE Jn Jk FC Jj Fz LZ Jf FA Fx Fw Jc B7 sc q h
end
end Mv
namespace Mv
open PySem PyProof.Rows
class inductive TGs (sc:Sc):List Expr->List Nat->Prop
 |nil:TGs sc [] []
 |cons {x:Str} {p:Pos} {i:Nat} {es:List Expr} {is:List Nat}:sc.isV x i->TGs sc es is->TGs sc (.Name x p::es) (i::is)
inductive TG (sc:Sc):Expr->fQ->Prop
 |one {x:Str} {p:Pos} {i:Nat}:sc.isV x i->TG sc (.Name x p) (.one i)
 |tup {es:List Expr} {is:List Nat} {k:Nat} {p:Pos}:TGs sc es is->TG sc (.Tuple es k p) (.tup is)
noncomputable def ti:Expr->Bool
 |.Starred _ _=>true
 |_=>false
def zR (sc:Sc) (x x':Str) (p p':Pos) (a b:Expr):Prop:=
 (p'.line==p.line)=true/\x≠x'/\sc.names.lookup x=some .local/\sc.names.lookup x'=some .local/\foldedForSure 8 a=false/\constantsAlone 8 a=false/\ti a=false/\ti b=false
inductive Sw where
 |st (s:Stmt) (z:St)
 |ss (ss:List Stmt) (zs:List St)
class inductive CT (sc:Sc):Sw->Prop
 |asg {x:Str} {p pos:Pos} {value:Expr} {i:Nat} {e:Ex}:sc.isV x i->CE sc value e->CT sc (.st (.Assign [.Name x p] value pos) (.asg (.one i) e))
 |setI {x:Str} {p p' pos:Pos} {value idx:Expr} {i:Nat} {e k:Ex}:sc.isV x i->CE sc value e->CE sc idx k->CT sc (.st (.Assign [.Subscript (.Name x p) idx p'] value pos) (.setI (.var i) k e))
 | app {x:Str} {p aN pos jR:Pos} {e:Expr} {i:Nat} {z:Ex} :sc.isV x i→CE sc e z→(aN.endLine == pos.line) = true→CT sc (.st (.Expr (.Call (.Attribute (.Name x p) "append" aN) [e] [] pos) jR) (.app (.var i) z))
 |iff {t:Expr} {a b:List Stmt} {pos:Pos} {z:Ex} {xa xb:List St}:CE sc t z->CT sc (.ss a xa)->CT sc (.ss b xb)->CT sc (.st (.If t a b pos) (.iff z xa xb))
 |ret {e:Expr} {pos:Pos} {z:Ex}:CE sc e z->CT sc (.st (.Return (some e) pos) (.ret z))
 |retN {pos:Pos}:CT sc (.st (.Return none pos) (.ret (.lit .none)))
 |for1 {g:Expr} {pos:Pos} {iter:Expr} {body:List Stmt} {t:fQ} {it:iU} {bN:List Ex} {xb:List St} {cw:List Nat}:TG sc g t->IT sc iter it bN->CT sc (.ss body xb)->CT sc (.st (.For g iter body [] pos) (.for_ t it bN xb cw))
 |whl {t:Expr} {body:List Stmt} {pos:Pos} {z:Ex} {xb:List St} {cw:List Nat}:CE sc t z->CT sc (.ss body xb)->CT sc (.st (.While t body [] pos) (.whl z xb cw))
 |raise {k HW:Str} {np lD pos ap:Pos} {kk:Nat}:sc.isG k->k∈tb.cl->CT sc (.st (.Raise (some (.Call (.Name k np) [.Constant (.str HW) kk ap] [] lD)) none pos) (.raise k))
 |try1 {x cn:Str} {p hp pos:Pos} {i:Nat} {yes no:List Str} {body hs:List Stmt} {h0:Stmt} {xb xh:List St}:sc.isV x i->sc.names.lookup x=some .local->sc.isG cn->tb.sub.lookup cn=some (yes,no)->CT sc (.ss body xb)->CT sc (.ss (h0::hs) xh)->
   CT sc (.st (.Try body [.ExceptHandler (some (.Name cn p)) (some x) (h0::hs) hp] [] [] pos) (.try_ xb yes i xh))
 |asgT {es:List Expr} {is:List Nat} {k:Nat} {p pos:Pos} {value:Expr} {e:Ex}:TGs sc es is->CE sc value e->iJ value=true->pB value=true->CT sc (.st (.Assign [.Tuple es k p] value pos) (.asg (.tup is) e))
 |asg2 {x x':Str} {p p' tp vp pos:Pos} {k kk i j:Nat} {a b:Expr} {ea eb:Ex}:sc.isV x i->sc.isV x' j->i≠j->zR sc x x' p p' a b->CE sc (.Tuple [a,b] kk vp) (.tup [ea,eb])->
   CT sc (.st (.Assign [.Tuple [.Name x p,.Name x' p'] k tp] (.Tuple [a,b] kk vp) pos) (.asg (.tup [i,j]) (.tup [ea,eb])))
 |no {s:Stmt}:CT sc (.st s .no)
 |rpl {x v:Str} {i j:Nat} {n:Int} {p1 p2 p3 p4 p5 p6 p7 p8 p9 ap pos:Pos} {k1 k2 k3 k4:Nat}:sc.isV x i->sc.isV v j->(ap.endLine==pos.line)=true->
   CT sc (.st (.If (.Compare (.Name v p1) [.Eq] [.Constant (.int n) k1 p2] p3) [.Return (some (.Call (.Attribute (.Name x p4) "replace" ap) [.Constant (.str ⟨#[32,61,32]⟩) k2 p5,.Constant (.str ⟨#[32]⟩) k3 p6,.Constant (.int 1) k4 p7] [] pos)) p8] [] p9) (.rpl i j n))
 |nil:CT sc (.ss [] [])
 |cons {s:Stmt} {ss:List Stmt} {z:St} {zs:List St}:CT sc (.st s z)->CT sc (.ss ss zs)->CT sc (.ss (s::ss) (z::zs))
abbrev CS (sc:Sc) (s:Stmt) (z:St):Prop:=CT sc (.st s z)
abbrev Mn (sc:Sc) (ss:List Stmt) (zs:List St):Prop:=CT sc (.ss ss zs)
variable [Hp]
theorem CG.le {vs:List Str} {t:fQ} (h:CG i g vs t) (hj:j∈aL t):i<=j:=by
 cases h with
 |one=>exact Nat.le_of_eq (List.mem_singleton.mp hj).symm
noncomputable def Nu:Sy->List Nat
 |.e _ x=>aG x
 |.s _ xs=>bC xs
 |.o _ x=>aG x
 |.i _ _ bN=>bC bN
theorem iD:∀sc q,CQ sc q-> ∀j∈Nu q,sc.hi<=j:=by
 have nil:∀ {sc:Sc} {j:Nat},j∈([]:List Nat)->sc.hi<=j:=λh=>by cases h
 have app:∀ {sc:Sc} {a b:List Nat},(∀j∈a,sc.hi<=j)->(∀j∈b,sc.hi<=j)-> ∀j∈a++b,sc.hi<=j:=λh1 h2 j hj=>(mem_append.mp hj).elim (h1 j) (h2 j)
 have comp:∀ {sc:Sc} {cb iter g:Expr} {vs:List Str} {t:fQ} {d9:List Expr} {scope:Scope} {i:Nat} {it:iU} {bN aq:List Ex} {x:Ex} (h0:CG i g vs t) (h1:IT sc iter it bN) (h2:gU scope sc vs) (h3:sc.hi<=i) (h4:CE (bG scope sc vs i) cb x) (h5:wc (bG scope sc vs i) d9 aq) (h6:∀j∈aL t,j∉aG x/\j∉bC aq),
   (∀j∈bC bN,sc.hi<=j)->(∀j∈aG x,(bG scope sc vs i).hi<=j)->(∀j∈bC aq,(bG scope sc vs i).hi<=j)-> ∀j∈aG (.comp x t it bN aq),sc.hi<=j:=fun {sc _ _ _ vs _ _ scope i _ _ _ _} h0 h1 h2 h3 h4 h5 h6 i1 i2 i3=>by
  have up:∀j,(bG scope sc vs i).hi<=j->sc.hi<=j:=λj h=>Zf h3 (Zf (Nat.le_add_right i _) h)
  exact app (app (app (λj hj=>Zf h3 (h0.le hj)) λj hj=>up j (i2 j hj)) i1) λj hj=>up j (i3 j hj)
 exact λsc q h=>@CQ.rec (λsc q ac=> ∀j∈Nu q,sc.hi<=j) (λac j hj=>nil hj) (λac j hj=>nil hj) (λac j hj=>nil hj) (λac az j hj=>nil hj) (λac az ih=>ih) (λac az ih=>ih) (λac az cL a b=>app a b) (λac a=>a) (λac a=>a) (λac az cL a b=>app a b) (λac az cL a b e=>app (app a b) e) (λac a=>a) (λac a=>a) (λac az cL a b e=>app (app a b) e)
  (λac az cL a b=>app a b) (λac az cL lS a b e=>app (app a b) e) (λac az cL lS a=>a) (λac az cL a=>app a λac h=>nil h) (λac az cL a=>app a λac h=>nil h) comp (λac az cL lS j hj=>nil hj) (λac az cL lS Ic j hj=>nil hj) (λac az a=>a) (λj hj=>nil hj) (λac az cL a b=>app a b) (λj hj=>nil hj) (λac a=>a) (λac a=>app a λac h=>nil h) (λac az a=>app a λac h=>nil h) sc q h
section
variable {A:Around} {c:dj} {n:Nat} {env:Env} {sc:Sc} {y:Lay}
 {bv bv':List Nat} {own ae am af:Addr->Option Nat} {Z aw Z₀ Z':Addr->Prop} {s s₁ s₀ s':Shared} {fr av:Fm}
theorem Step.strong (S:Step y bv own Z s af Z' s') (en:aS A sc env y) (h:∀j∈bv,sc.hi<=j):Step y [] own Z s af Z' s':=
 {S with bind:=λi l v ac hl r=>S.bind i l v (λq=>by have:=h i q;have:=en.hi i l hl;exact(Lf [sc.3,i] [Gl .x .y,Gl (.p 1 .y) .x] rfl ‹sc.hi<=i› this)) hl r}
theorem aV.strong {out:Except Str β×Fm} {v:Value} {Nt:List Nat} (en:aS A sc env y) (h:∀j∈Nt,sc.hi<=j) (S:Step y bv am Z₀ s₀ own Z s) (x:aV y Nt own Z s out v s'):aV y bv am Z₀ s₀ out v s':=by
 obtain⟨nm,a,af,Z',q,e1,I,S',X⟩:=x;exact⟨nm,a,af,Z',q,e1,I,S.trans ((S'.strong en h).sub λac h=>by cases h),X.mono λb ac az h=>⟨S.old b h.1,h.2⟩⟩
def FY (y:Lay) (s₀:Shared) (af:Addr->Option Nat) (Z':Addr->Prop) (s':Shared) (f:Flow):ey->Prop
 |.next=>f = .next
 |.ret r=> ∃v,f = .ret v/\fB y af Z' s₀.heap s'.heap r v/\ ∃d,bU r=some d
inductive jP (y:Lay) (bv:List Nat) (s₀:Shared) (own:Addr->Option Nat) (Z:Addr->Prop) (s:Shared) (out:Except Str ey×Fm) (f:Flow) (s':Shared):Prop
 |mk (k:ey) (af:Addr->Option Nat) (Z':Addr->Prop):out.1 = .ok k->Inv y af Z' s'.heap out.2->Step y bv own Z s af Z' s'->FY y s₀ af Z' s' f k->jP y bv s₀ own Z s out f s'
def SS (A:Around) (c:dj) (y:Lay) (bv:List Nat) (am:Addr->Option Nat) (Z₀:Addr->Prop) (s₀:Shared) (m:Sem Flow) (z:List St):Prop:=
 ∀(own:Addr->Option Nat) (Z:Addr->Prop) (s:Shared) (fr:Fm) (out:Except Str ey×Fm),du c z fr=some out->Inv y own Z s.heap fr->Step y bv am Z₀ s₀ own Z s->wpAny (model prog w) A m (jP y bv s₀ own Z s out) (aV y bv own Z s out) s
def mi (A:Around) (c:dj) (y:Lay) (bv:List Nat) (am:Addr->Option Nat) (Z₀:Addr->Prop) (s₀:Shared) (m:Sem Flow) (z:St):Prop:=
 ∀(own:Addr->Option Nat) (Z:Addr->Prop) (s:Shared) (fr:Fm) (out:Except Str ey×Fm),qv c z fr=some out->Inv y own Z s.heap fr->Step y bv am Z₀ s₀ own Z s->wpAny (model prog w) A m (jP y bv s₀ own Z s out) (aV y bv own Z s out) s
theorem rp {x:Ex} {k:Rv->Fm->cR β} {out:Except Str β×Fm} {Q:Value->Shared->Prop} (en:aS A sc env y) (ce:CE sc e x) (H:SE A c y (eval e env) x) (hk:aT (ev c x fr) k=some out) (I:Inv y own Z s.heap fr) (S:Step y bv am Z₀ s₀ own Z s)
  (K:∀r an aj aI aA v,ev c x fr=some (.ok r,an)->k r an=some out->Inv y aj aI aA.heap an->Step y [] own Z s aj aI aA->Step y bv am Z₀ s₀ aj aI aA->fB y aj aI s.heap aA.heap r v->Q v aA):
  wpAny (model prog w) A (eval e env) Q (aV y bv am Z₀ s₀ out) s:=by
 refine YR (cr (bv:=aG x) hk .refl (λac h=>h) (λo e=>H own Z s fr o e I) λr an aj aI aA v bg h aC ba ac R=>?_) (λv s' q=>q) λac s' p=>p.strong en (iD sc (.e e x) ce) S
 exact K r an aj aI aA v bg h aC (ba.strong en (iD sc (.e e x) ce)) (S.trans ((ba.strong en (iD sc (.e e x) ce)).sub λac h=>by cases h)) R
theorem wQ {x:Ex} {k:Rv->Fm->cR β} {out:Except Str β×Fm} {Q:Bool->Shared->Prop} (en:aS A sc env y) (ce:CE sc e x) (H:ST A c y (isTrue e env (eval e env)) x) (hk:aT (ev c x fr) k=some out) (I:Inv y own Z s.heap fr) (S:Step y bv am Z₀ s₀ own Z s)
  (hd:∀r an,k r an=some out-> ∃d,bO an r=some d)
  (K:∀r d an aj aI aA,k r an=some out->bO an r=some d->Inv y aj aI aA.heap an->Step y bv am Z₀ s₀ aj aI aA->Q (tD d) aA):
  wpAny (model prog w) A (isTrue e env (eval e env)) Q (aV y bv am Z₀ s₀ out) s:=by
 refine YR (kC (bv:=aG x) hk .refl (λac h=>h) hd (λo e hd=>H own Z s fr o e hd I) λr d an aj aI aA h hd aC ba ac=>?_) (λv s' q=>q) λac s' p=>p.strong en (iD sc (.e e x) ce) S
 exact K r d an aj aI aA h hd aC (S.trans ((ba.strong en (iD sc (.e e x) ce)).sub λac h=>by cases h))
theorem Step.addO (S:Step y bv own Z s af Z' s') (e:s.heap.get? a=none):Step y bv own Z s (addO af a i) Z' s':=
 ⟨S.sh,S.ext,S.zm,S.zn,λb j q=>by
   by_cases h:b=a
   .exact .inr (h▸e)
   .rw[fI h]at q;exact S.on b j q,S.bind⟩
set_option tactic.hygienic true in
theorem mv {x:Str} {r:Rv} {v:Value} {an:Fm} {Q:Unit->Shared->Prop} (en:aS A sc env y) (hv:sc.vars.lookup x=some i) (hf:env.kindOf x≠some .free) (hl:∃l,y.loc i=some l) (hb:i∉c.pin->i∈bv)
  (he:asgT c.pin fr (.one i) r=some an) (I:Inv y own Z s.heap fr) (S:Step y bv am Z₀ s₀ own Z s) (hh:∀a,h₀.get? a=none->s₀.heap.get? a=none) (R:fB y own Z h₀ s.heap r v)
  (K:∀af Z' s',(∃h' tk,s'={s with heap:=h',toks:=tk})->(∀l,y.loc i=some l-> ∀a o,a≠l.addr->s.heap.get? a=some o->s'.heap.get? a=some o)->(∀a,af a≠none->own a≠none\/v = .ref a)->(∀a,Z' a->Z a)->Inv y af Z' s'.heap an->Step y bv am Z₀ s₀ af Z' s'->Q () s'):wpAny (model prog w) A (storeName env x v) Q E s:=by
 refine aQ hl λl hl=>?_
 simp only[asgT]at he
 split at he
 .exact ah he
 .rename_i hp
  have vd:∀j∈ [i],j∈bv:=λj hj=>by rw[Zl]at hj;subst hj;exact(hb (by simpa using hp))
  split at he
  .obtain rfl:=aF he
   exact cZ en hv hf hl I λh' tk P=>K own Z _ ⟨_,_,rfl⟩ (λl' df=>by rw[hl]at df;obtain rfl:=aF df;exact P.keep) (λa h=>.inl h) (λa z=>z) (P.fz I hl R) (S.trans ((P.step hl I).sub vd))
  .obtain rfl:=aF he
   obtain⟨a,R⟩:=R;obtain rfl:=R.1;refine cZ en hv hf hl I λh' tk P=>K (addO own a i) Z _ ⟨_,_,rfl⟩ (λl' df=>by rw[hl]at df;obtain rfl:=aF df;exact P.keep) (λb h=>?_) (λa z=>z) (P.owned I hl R.2.2.1 R.2.2.2.1 R.2.2.2.2.1 R.2.2.2.2.2) ((S.trans ((P.step hl I).sub vd)).addO (hh a R.2.1))
   by_cases q:b=a
   .subst q;exact .inr rfl
   .rw[fI q]at h;exact .inl h
  .exact ah he
structure eJ (A:Around) (sc:Sc) (env:Env) (y:Lay) (c:dj) (bv:List Nat) (am:Addr->Option Nat):Prop where
 en:aS A sc env y
 nf:∀x i,sc.vars.lookup x=some i->env.kindOf x≠some .free
 bv:∀i,i∉c.pin->i<sc.hi->i∈bv
 pin:∀a i,am a=some i->i∈c.pin
 ni:interactive env=false
 kd:∀x,env.kindOf x=sc.names.lookup x
theorem eJ.loc {x:Str} (ok:eJ A sc env y c bv am) (h:sc.vars.lookup x=some i):∃l,y.loc i=some l:=by
 rcases ok.en.var x i h with⟨_,e⟩|⟨_,c,_,e⟩<;>exact⟨_,e⟩
theorem eJ.bvi {x:Str} (ok:eJ A sc env y c bv am) (h:sc.vars.lookup x=some i):i∉c.pin->i∈bv:=λhp=>by
 exact aQ (ok.loc h) λl hl=>(ok.bv i hp (ok.en.hi i l hl))
set_option tactic.hygienic true in
theorem DB {x:Str} {p:Pos} {e:Ex} (R:Rn A c n) (ok:eJ A sc env y c bv am) (hx:sc.isV x i) (ce:CE sc value e):
  mi A c y bv am Z₀ s₀ (exec (.Assign [.Name x p] value pos) env) (.asg (.one i) e):=by
 intro own Z s fr out h I S;rw[oo,show(c.hd&&(fQ.one i).isTup)=false from Bool.and_false _,YW Z6]at h;have plain:swapsWith value (some (.Name x p)) pos.line env=pure false->wpAny (model prog w) A (exec (.Assign [.Name x p] value pos) env) (jP y bv s₀ own Z s out) (aV y bv own Z s out) s:=λhs=>by
  refine wpAny_Assign_Name (rp ok.en ce (bA R sc _ ce env y ok.en).1 h I .refl λr an aj aI aA v bg h aC ba aU iS=>?_) hs
  split at h
  .rename_i ff he
   exact Er (aF h).symm (mv ok.en hx.1 (ok.nf x i hx.1) (ok.loc hx.1) (ok.bvi hx.1) he aC aU (λac q=>q) iS λaf Z' s' ac az cL lS I' S'=>⟨.next,af,Z',rfl,I',S',rfl⟩)
  .exact ah h
 by_cases hc:iJ value=true
 .exact plain (gx ce hc)
 .cases ce.ci with
  |lit|nm=>exact absurd rfl hc
  |other h _ _=>exact absurd h hc
  |@comp cb iter g vs t lD d9 scope j it bN aq z h0 h1 h2 h3 h4 h5 h6=>
   have K6:swapsWith (.ListComp cb [⟨g,iter,d9,0⟩] scope lD) (some (.Name x p)) pos.line env=pure (env.blockKind == .function&&env.kindOf x==some .local&&p.line==lD.line
    && !(scope.names.any λ(n,k)=>n==x&&(k == .local||k == .cell))):=rfl
   generalize hb:(env.blockKind == .function&&env.kindOf x==some .local&&p.line==lD.line && !(scope.names.any λ(n,k)=>n==x&&(k == .local||k == .cell)))=b at K6;cases b with
   |false=>exact plain K6
   |true=>
    refine Er (exec_Assign_Name_used _ _ _ _ K6) ?_;refine YS (wpAny_standAt (YS ?_));have all:=bA R;refine aM λG g1=>?_
    rcases aX h with⟨e,f,hm,rfl⟩|⟨r,f,hm,h⟩
    .refine g1 ?_
     refine YS (lE (use:=some (assign (.Name x p) env)) h0 R.hh ok.en h2 h3 (all _ _ h1 env y ok.en) (h1.noFold env) (λenv y en=>(all _ _ h4 env y en).1) (λenv y en=>(all _ _ h5 env y en).imp λac az q=>q.2.2) hm I (λac s' p=>(p.strong ok.en (iD sc (.e _ _) (CQ.comp (pos:=lD) h0 h1 h2 h3 h4 h5 h6)) .refl).up (λac h=>h) .refl) λDa C s' af Z' ds b4 m ho I' S' R' LC hm CL=>?_);cases ho
    .refine g1 ?_
     refine YS (lE (use:=some (assign (.Name x p) env)) h0 R.hh ok.en h2 h3 (all _ _ h1 env y ok.en) (h1.noFold env) (λenv y en=>(all _ _ h4 env y en).1) (λenv y en=>(all _ _ h5 env y en).imp λac az q=>q.2.2) hm I (λe s' p=>p.elim) λDa C s' af Z' ds b4 m ho I' S' R' LC Iv CL=>?_);cases ho
     split at h
     .rename_i ff he
      refine Er (aF h).symm ?_;refine wpAny_assign_Name (mv ok.en hx.1 (ok.nf x i hx.1) (ok.loc hx.1) (ok.bvi hx.1) he I' ((S'.strong ok.en (iD sc (.e _ _) (.comp h0 h1 h2 h3 h4 h5 h6:CE sc (.ListComp cb [⟨g,iter,d9,0⟩] scope lD) (.comp z t it bN aq)))).sub λac h=>by cases h) (λac q=>q) R' λxi Jz lW Pd Om Lc hZ jJ zP=>?_);obtain⟨l,hl⟩:=ok.loc hx.1;have OM:C≠l.addr:=λq=>LC.2.1 (.inr (.inr ⟨i,l,hl,q.symm⟩))
      have tM:∀b,b=C-> ¬y.wr xi b/\ ¬y.F b/\ ¬Jz b:=λb q=>by
       subst q;refine⟨λq=>?_,LC.2.2.1,λq=>LC.2.2.2.1 (hZ _ q)⟩
       rcases q with q|q
       .rcases Lc _ q with q|q
        .exact LC.2.1 (.inl q)
        .cases q;exact CL rfl
       .exact LC.2.1 (.inr q)
      refine⟨m,(Iv.at' λo ho=>Om l hl C o OM ho),λh' hs=>YO (YO ?_)⟩;have kp:∀b o, ¬b=C->lW.heap.get? b=some o->h'.get? b=some o:=λb o q e=>hs.extBut b o q e
      exact⟨.next,xi,Jz,rfl,jJ.other tM kp,zP.other (tk:=lW.toks) (X:=λb=>b=C) (λb q=>⟨q▸LC.1,(tM b q).1⟩) kp,rfl⟩
     .exact ah h
theorem u1 {Q:Unit->Shared->Prop} (ok:eJ A sc env y c bv am):∀ {es:List Expr} {is:List Nat},TGs sc es is-> ∀ {vs:List Value} {ds:List D} {fr an:Fm} {s:Shared} {own:Addr->Option Nat} {Z:Addr->Prop},ao s.heap Z vs ds->lM c.pin fr is ds=some an->Inv y own Z s.heap fr->
  (∀s',(∃h' tk,s'={s with heap:=h',toks:=tk})->Inv y own Z s'.heap an->Step y bv own Z s own Z s'->Q () s')->wpAny (model prog w) A (assignInOrder ((assignEach es env).map (·.2)) vs) Q E s:=by
 intro es is t
 induction t with
 |nil=>
  intro vs ds fr an s own Z R h I K;cases ds with
  |nil=>obtain rfl:=aF h;exact assignInOrder_nil (K s ⟨_,_,rfl⟩ I .refl)
  |cons d ds=>exact ah h
 |@cons _ _ i _ is hx t ih=>
  intro vs ds fr an s own Z R h I K;cases R with
  |nil=>exact ah h
  |@cons v vs d ds r R=>
   have h:(if c.pin.contains i then none else lM c.pin (fr.set i (.fz d)) is ds)=some an:=h
   by_cases q:c.pin.contains i=true
   .rw[YV q]at h;exact ah h
   rw[YW q]at h;refine aQ (ok.loc hx.1) λl hl=>?_
   refine assignInOrder_cons (wpAny_assign_Name (cZ ok.en hx.1 (ok.nf _ i hx.1) hl I λh' tk P=>?_));have S1:Step y bv own Z s own Z {s with heap:=h',toks:=tk}:=(P.step hl I).sub λj hj=>by exact Er (List.mem_singleton.mp hj) (ok.bvi hx.1 λz=>q (contains_iff_mem.mpr z))
   refine ih (S1.repAll I R) h (P.fz I hl r) λs' sh I' S'=>K s' ?_ I' (S1.trans S')
   refine fW sh λh2 Ks sh=>?_;subst sh;exact⟨_,_,rfl⟩
theorem TGs.len {is:List Nat} (t:TGs sc es is):(assignEach es env).length=is.length/\(assignEach es env).findIdx? (·.1)=none:=by
 induction t with
 |nil=>exact⟨rfl,rfl⟩
 |cons _ _ t=>
  refine⟨Y2 (· + 1) t.1,?_⟩;refine Er (List.findIdx?_cons) ?_;simp[t.2]
theorem zH:∀ {is:List Nat} {ds:List D} {fr an:Fm},lM pin fr is ds=some an->is.length=ds.length:=by
 intro is ds fr an h
 induction is generalizing ds fr an with
 |nil=>
  cases ds with
  |nil=>exact rfl
  |cons x1 x2=>exact ah h
 |cons i is ih=>
  cases ds with
  |nil=>exact ah h
  |cons d ds=>
    have h:(if pin.contains i then none else lM pin (fr.set i (.fz d)) is ds)=some an:=h
    by_cases q:pin.contains i=true
    .rw[YV q]at h;exact ah h
    .rw[YW q]at h;exact Y2 (· + 1) (ih h)
theorem te {t:fQ} {v:Value} {d:D} {fr an:Fm} {Q:Unit->Shared->Prop} (ok:eJ A sc env y c bv am) (hh:A.handled=none) (tg:TG sc g t) (he:asgT c.pin fr t (.fz d)=some an) (I:Inv y own Z s.heap fr) (R:bS s.heap Z v d)
  (K:∀s',(∃h' tk,s'={s with heap:=h',toks:=tk})->Inv y own Z s'.heap an->Step y bv own Z s own Z s'->Q () s'):wpAny (model prog w) A (assign g env v) Q E s:=by
 cases tg with
 |@one x p i hx=>
  obtain⟨q,rfl⟩:=KV he;obtain⟨l,hl⟩:=ok.loc hx.1;exact wpAny_assign_Name (cZ ok.en hx.1 (ok.nf _ i hx.1) hl I λh' tk P=>K _ ⟨_,_,rfl⟩ (P.fz I hl R) ((P.step hl I).sub λj hj=>by refine Er (List.mem_singleton.mp hj) ?_;exact ok.bvi hx.1 λz=>q (contains_iff_mem.mpr z)))
 |tup t=>
  cases R with
  |@tuple a vs n ds z ht hn R=>
   refine assign_Tuple_tuple hh ⟨_,ht,rfl,_,rfl⟩ (Er t.len.1 (Er (zH he) (Er Zj (Er R.length rfl)))) t.len.2 λh' ext=>?_
   have kp:∀b o,s.heap.get? b=some o->h'.get? b=some o:=λb o e=>ext b o (ne_of_lt (ZV e)) e
   refine u1 (s:= {s with heap:=h'}) ok t (R.mono (λb o ac=>kp b o) λac z=>z) he (I.grow kp) λs' sh I' S'=>K s' ?_ I' ((Step.grow (tk:=s.toks) kp).trans S')
   obtain⟨h2,Ks,rfl⟩:=sh;exact⟨_,_,rfl⟩
  |_=>exact ah he
end
section
variable {A:Around} {E:Value->Shared->Prop} {s:Shared}
theorem pp {d d':D} (I:Inv y own Z s.heap fr) (hs:fr[i]? = some (.own d)) {l:Loc} (hl:y.loc i=some l) (hr:im s.heap l (.ref a)) (oa:own a=some i)
  (pX:Heap.SameBut a s.heap h') (W:cq h' Z a d'):Inv y own Z h' (fr.set i (.own d'))/\Step y [] own Z s own Z {s with heap:=h'}:=by
 have on:own a≠none:=by exact Er oa (λn=>by cases n)
 refine⟨I.setC hs hl hr oa (λb o q e=>pX.extBut b o q e) W,⟨⟨_,_,rfl⟩,⟨λb o e nw nf=>pX.extBut b o (λq=>nw (.inl (q▸on))) e,λb o e=>?_,λb o f e=>⟨o.slots,pX.extBut b o (λq=>I.oF a on (q▸f)) e⟩⟩,λac z=>z,λac z=>.inl z,λac az e=>.inl e,λj k v ac hk r=>r.keeps λo e=>pX.extBut _ o (λq=>on (q▸I.ol j k hk)) e⟩⟩
 by_cases q:b=a
 .subst q;exact W.live
 .exact⟨o,pX.extBut b o q e⟩
theorem jP.from {out:Except Str ey×Fm} {f:Flow} {d4:Shared} (S:Step y bv own Z s af Z' s') (p:jP y bv s₀ af Z' s' out f d4):jP y bv s₀ own Z s out f d4:=by
 obtain⟨k,o,z,e,I,S',r⟩:=p;exact⟨k,o,z,e,I,S.trans S',r⟩
theorem dH {d:D} (h:dT fr (.var i)=some d):fr[i]? = some (.own d):=by
 simp only[dT]at h
 split at h
 .refine Er (aF h).symm ?_;assumption
 .exact ah h
set_option tactic.hygienic true in
theorem DC {x:Str} {p jR:Pos} {z:Ex} (R:Rn A c n) (ok:eJ A sc env y c bv am) (hx:sc.isV x i) (ce:CE sc e z) (hp:(aN.endLine==pos.line)=true):
  mi A c y bv am Z₀ s₀ (exec (.Expr (.Call (.Attribute (.Name x p) "append" aN) [e] [] pos) jR) env) (.app (.var i) z):=by
 intro own Z s fr out h I S;rw[t4]at h
 split at h
 .rename_i pW
  refine aM λG6 g6=>?_
  obtain⟨E8,yE⟩:∃E8,dT fr (.var i)=some (.list E8):=by
   unfold AQ at pW;split at pW
   .rename_i q;exact⟨_,q⟩
   .cases pW
  obtain⟨l,v,hl,hr,a,rfl,oa,W⟩:=I.at' i _ (dH yE) (by intro q;cases q);refine g6 ?_;refine wpAny_Expr_any (wpAny_Call_append rfl (by refine Er (ce.star env []) ?_;rfl) hp (by refine Er (ce.star env []) ?_;rfl) (dn ok.en hx hl hr ?_)) ok.ni rfl;refine aM λG7 g7=>?_
  cases W with
  |@list vs m ds EE hz RA=>
   refine g7 ?_;refine⟨a,_,rfl,⟨_,_,EE,rfl,rfl,rfl⟩,?_⟩;refine rp ok.en ce (bA R sc _ ce env y ok.en).1 h I .refl λr an aj aI aA v bg h aC ba aU iS=>?_
   refine aM λG8 g8=>?_
   split at h
   .refine g8 ?_
    rename_i d xs hd K1
    split at h
    .rename_i bH
     refine Er (aF h).symm ?_;refine aM λG g=>?_
     obtain⟨l',v',df,Bo,a',rfl,Cu,W'⟩:=aC.at' i _ (dH K1) (by intro q;cases q);rw[hl]at df;obtain rfl:=aF df;have pY:=ba.bind i l _ (by intro q;cases q) hl hr;refine aM λG2 g2=>?_
     obtain q:=pY.det Bo;refine g2 ?_;refine aM λG1 g1=>?_
     cases q;refine aM λG3 g3=>?_
     obtain⟨fZ,gu,iw,sU⟩:=iS.freeze aC ba hd;refine aM λG4 g4=>?_
     obtain⟨l3,v3,Iy,z5,a3,rfl,JX,FO⟩:=gu.at' i _ (dH K1) (by intro q;cases q);rw[hl]at Iy;obtain rfl:=aF Iy;refine aM λG5 g5=>?_
     obtain q:=Bo.det z5;cases q;cases FO with
     |@list vs m ds EE hz RA=>
      refine g5 ?_;refine g4 ?_;refine g3 ?_;refine g1 ?_;refine g ?_;refine append_at (hsz:=by refine Er Zj (Er bb.symm ?_);exact hz) EE λh' pX qX=>?_
      have kz:∀b o,fZ b->aA.heap.get? b=some o->h'.get? b=some o:=λb o z e=>pX.extBut b o (λq=>by have:=gu.zo b z;rw[q]at this;have this:=JX▸this;cases this) e
      have FN:cq h' fZ a (.list (xs++[d])):=by
       refine .list (vs:=vs++[v]) (n:=m+1) (by simpa using qX) ?_ ((RA.mono kz λac z=>z).append (.cons (sU.mono kz λac z=>z) .nil));refine Er ZE (Er RA.length ?_);simp;exact bH
      have Q:=pp gu (dH K1) hl z5 JX pX FN;exact⟨.next,aj,fZ,rfl,Q.1,(iw.sub λac h=>by cases h).trans (Q.2.sub λac h=>by cases h),rfl⟩
    .exact ah h
   .refine g8 ?_
    exact ah h
 .exact ah h
set_option tactic.hygienic true in
theorem Am {x:Str} {p:Pos} {idx:Expr} {z k:Ex} (R:Rn A c n) (ok:eJ A sc env y c bv am) (hx:sc.isV x i) (ce:CE sc value z) (ck:CE sc idx k):
  mi A c y bv am Z₀ s₀ (exec (.Assign [.Subscript (.Name x p) idx p'] value pos) env) (.setI (.var i) k z):=by
 intro own Z s fr out h I S;rw[qu]at h;refine wpAny_Assign_Subscript (rp ok.en ce (bA R sc _ ce env y ok.en).1 h I .refl λr av ae aw s₁ v bg h ay ba S' FR=>?_) (uz ce)
 split at h
 .refine aM λG g=>?_
  rename_i pW;refine aM λG1 g1=>?_
  refine aQ (isSome_iff_exists.mp pW) λE8 yE=>?_
  obtain⟨l,Ko,hl,hr,a,rfl,oa,W⟩:=ay.at' i _ (dH yE) (by intro q;cases q);refine g1 ?_;refine g ?_;refine dn ok.en hx hl hr ?_;refine rp ok.en ck (bA R sc _ ck env y ok.en).1 h ay S' λrk an aj aI aA vk jC h aC aU GA iS=>?_
  cases hd:bU r with
  |none=>rw[hd]at h;exact ah h
  |some d=>
  cases J6:bU rk with
  |none=>rw[hd,J6]at h;exact ah h
  |some kd=>
  cases ho:dT an (.var i) with
  |none=>rw[hd,J6,ho]at h;exact ah h
  |some o=>
  .rw[hd,J6,ho]at h
   dsimp only at h;cases i0:ro o kd d with
   |none=>rw[i0]at h;exact ah h
   |some o'=>
    rw[i0]at h;refine Er (aF h).symm ?_;refine aM λG2 g2=>?_
    obtain⟨fZ,gu,iw,sU⟩:=(aU.rv ay (dS hd) FR).freeze aC (ba.trans aU) hd;obtain⟨l3,v3,Iy,z5,a3,rfl,JX,FO⟩:=gu.at' i _ (dH ho) (by intro q;cases q);rw[hl]at Iy;obtain rfl:=aF Iy;obtain q:=(aU.bind i l _ (by intro q;cases q) hl hr).det z5;cases q;have ME:=JX;cases FO with
    |@list vs m xs EE hz RA=>refine g2 ?_;exact ah i0
    |@dict kvs ds lT hz RK=>
     refine g2 ?_;cases kd with
     |str k=>
      obtain⟨t,rfl,NT,NQ⟩:=(iS.dat aC (cH J6)).str;have i0:(if ds.length<Sz then _ else none)=some _:=i0
      split at i0
      .rename_i hj
       obtain rfl:=aF i0;refine wpAny_setItem_pairs (knd:=strKind prog w) (strKind_is _ _ k t) lT.2 (λh' di pX=>?_) (by refine Er bb.symm ?_;exact hz);have kz:∀b o,fZ b->aA.heap.get? b=some o->h'.get? b=some o:=λb o z e=>pX.extBut b o (λq=>by have:=gu.zo b z;rw[q]at this;have this:=ME▸this;cases this) e
       have Nw:=(RK.mono kz λac z=>z).set NT NQ (sU.mono kz λac z=>z);have FN:cq h' fZ a (.dict (i8 ds k d)):=.dict ⟨lT.1,di⟩ (by refine Er Nw.length ?_;exact Zf (vL k d ds) hj) Nw;have Q:=pp gu (dH ho) hl z5 ME pX FN;exact⟨.next,aj,fZ,rfl,Q.1,aY ((iw.sub λac h=>by cases h).trans (Q.2.sub λac h=>by cases h)),rfl⟩
      .exact ah i0
     |none=>exact ah i0
     |bool b=>exact ah i0
     |int b=>exact ah i0
     |list b=>exact ah i0
     |tuple b=>exact ah i0
     |dict b=>exact ah i0
 .exact ah h
set_option tactic.hygienic true in
theorem Dx {z:Ex} (R:Rn A c n) (ok:eJ A sc env y c bv am) (ce:CE sc e z):mi A c y bv am Z₀ s₀ (exec (.Return (some e) pos) env) (.ret z):=by
 intro own Z s fr out h I S;rw[tY]at h;refine wpAny_Return_some (rp ok.en ce (bA R sc _ ce env y ok.en).1 h I .refl λr av ae aw s₁ v bg h ay ba S' FR=>?_)
 split at h
 .exact ah h
 .rename_i ip
  refine Er (aF h).symm ?_;refine⟨.ret r,ae,aw,rfl,ay,S',v,rfl,FR.since S.old,?_⟩
  rcases y2 bg with q|⟨p,rfl,_⟩
  .exact q
  .exact absurd rfl (ip p)
theorem An:mi A c y bv am Z₀ s₀ (exec (.Return none pos) env) (.ret (.lit .none)):=by
 intro own Z s fr out h I S;exact Er (aF h).symm (wpAny_Return_none ⟨.ret (.fz .none),own,Z,rfl,I,.refl,.none,rfl,.none,_,rfl⟩)
theorem Dy:SS A c y bv am Z₀ s₀ (execs [] env) []:=by
 intro own Z s fr out h I S;exact Er (aF h).symm (wpAny_execs_nil ⟨.next,own,Z,rfl,I,.refl,rfl⟩)
theorem Ao {st:Stmt} {ss:List Stmt} {z:St} {zs:List St} (H1:mi A c y bv am Z₀ s₀ (exec st env) z) (H2:SS A c y bv am Z₀ s₀ (execs ss env) zs):SS A c y bv am Z₀ s₀ (execs (st::ss) env) (z::zs):=by
 intro own Z s fr out h I S;rw[hM]at h;refine wpAny_execs_cons ?_
 rcases aX h with⟨e,f,hm,rfl⟩|⟨k,f,hm,h⟩
 .refine YR (H1 own Z s fr _ hm I S) (λfl s' p=>?_) λac az x=>x
  obtain⟨_,_,_,q,_⟩:=p;exact pQ q
 .refine YR (H1 own Z s fr _ hm I S) (λfl s' p=>?_) λac az x=>x.elim
  obtain⟨k',af,Z',q,I',S',r⟩:=p;obtain rfl:=lQ q;cases k with
  |next=>
   cases r;refine YR (H2 af Z' s' f out h I' (S.trans S')) (λfl d4 p=>?_) λac az x=>x.sub (λac h=>h) S'
   exact p.from S'
  |ret rv=>
   refine Er (aF h).symm ?_;obtain⟨v,r⟩:=r;refine Er r.1 ?_;exact⟨.ret rv,af,Z',rfl,I',S',v,rfl,r.2⟩
set_option tactic.hygienic true in
theorem Dz {t:Expr} {a b:List Stmt} {z:Ex} {xa xb:List St} (R:Rn A c n) (ok:eJ A sc env y c bv am) (ce:CE sc t z) (Ha:SS A c y bv am Z₀ s₀ (execs a env) xa) (Hb:SS A c y bv am Z₀ s₀ (execs b env) xb):
  mi A c y bv am Z₀ s₀ (exec (.If t a b pos) env) (.iff z xa xb):=by
 intro own Z s fr out h I S;rw[tZ]at h;refine wpAny_If (wQ ok.en ce (bA R sc _ ce env y ok.en).2 h I .refl (λr an h=>?_) λr d an aj aI aA h hd aC aU=>?_)
 .split at h
  .exact⟨_,by assumption⟩
  .exact ah h
 .have h:=hd▸h
  dsimp only at h
  split at h
  .rename_i ht;rw[YV ht];exact YR (Ha aj aI aA an out h aC (S.trans aU)) (λfl d4 p=>p.from aU) λac az x=>x.sub (λac h=>h) aU
  .rename_i ht;rw[YW ht];exact YR (Hb aj aI aA an out h aC (S.trans aU)) (λfl d4 p=>p.from aU) λac az x=>x.sub (λac h=>h) aU
theorem mi.of {m:Sem Flow} {z:St} (H:∀(own:Addr->Option Nat) (Z:Addr->Prop) (s:Shared) (fr:Fm) (out:Except Str ey×Fm) (Q:Flow->Shared->Prop) (E:Value->Shared->Prop),(∀f s',jP y bv s₀ own Z s out f s'->Q f s')->(∀e s',aV y bv own Z s out e s'->E e s')->
  qv c z fr=some out->Inv y own Z s.heap fr->Step y bv am Z₀ s₀ own Z s->wpAny (model prog w) A m Q E s):mi A c y bv am Z₀ s₀ m z:=λown Z s fr out h I S=>H own Z s fr out _ _ (λac az p=>p) (λac az p=>p) h I S
inductive JQ (y:Lay) (bv:List Nat) (own:Addr->Option Nat) (Z:Addr->Prop) (s:Shared) (items:List D) (fp wr:List Addr) (P:Nat->Value->Prop) (St:Nat->Heap->Prop) (c:dj) (t:fQ) (xb:List Mv.St) (cw:List Nat) (out:Except Str ey×Fm) (m:Nat) (s':Shared):Prop
 |mk (k:Nat) (af:Addr->Option Nat) (Z':Addr->Prop) (b4:Fm):m=items.length+1-k->k<=items.length->Inv y af Z' s'.heap b4->Step y bv own Z s af Z' s'->iv y items fp wr P St s.heap af Z' s'.heap k->
   dL c b4 t xb cw (items.drop k)=some out->JQ y bv own Z s items fp wr P St c t xb cw out m s'
set_option tactic.hygienic true in
theorem DA {t:fQ} {it:iU} {bN:List Ex} {xb:List St} (R:Rn A c n) (ok:eJ A sc env y c bv am) (tg:TG sc g t) (iK:IT sc iter it bN) (Hb:SS A c y bv am Z₀ s₀ (execs body env) xb):
  mi A c y bv am Z₀ s₀ (exec (.For g iter body [] pos) env) (.for_ t it bN xb cw):=by
 refine mi.of λown Z s fr out Q E kQ kE h I S=>?_
 rw[t0]at h;cases gL:c.hd with
 |true=>have h:=gL▸h;exact ah h
 |false=>
 rw[gL,YW Z6]at h;have hI:=bA R _ _ iK env y ok.en;refine wpAny_For ?_ (iK.noFold env);refine aM λG g1=>?_
 rcases aX h with⟨e,f,hm,rfl⟩|⟨rs,av,hm,h⟩
 .refine g1 ?_
  refine YR (hI own Z s fr _ hm (λrs q=>by exact pQ q) gL I) (λx s₁ p=>YR p (λGc aA p=>?_) λac az x=>kE _ _ ((x.strong ok.en (iD sc _ iK) .refl).up (λac h=>h) .refl)) λac az x=>kE _ _ ((x.strong ok.en (iD sc _ iK) .refl).up (λac h=>h) .refl)
  obtain⟨_,_,_,_,_,_,_,_,_,_,q,_⟩:=p;exact pQ q
 .refine g1 ?_
  split at h
  .exact ah h
  .refine aM λG2 g3=>?_
   rename_i ds lT
   split at h
   .refine g3 ?_
    exact ah h
   .refine g3 ?_
    rename_i items lc;refine YR (hI own Z s fr _ hm (λrs q=>by refine Er (lQ q).symm ?_;exact⟨ds,items,lT,lc⟩) gL I) (λxv s₁ p=>YR p (λGc aA p=>?_) λac az x=>x.elim) λac az x=>x.elim
    obtain⟨KB,ke,Ey,ae,aw,It,fp,wr,P,St,q,yF,yA,bH,rfl,aC,aU,W,WA⟩:=p;refine aM λG1 g2=>?_
    obtain rfl:=lQ q;rw[lT]at yF;obtain rfl:=aF yF;rw[lc]at yA;obtain rfl:=aF yA;refine g2 ?_;refine EF (JQ y bv own Z s items fp wr P St c t xb cw out) λJ je ji=>?_
    refine codeAny_forLoop_any J ?_ (items.length+1) (ji _ _ ⟨0,ae,aw,av,rfl,Y8 _,aC,((aU.strong ok.en (iD sc _ iK)).sub λac h=>by cases h),WA,by refine Er ZI ?_;exact h⟩);intro m s' jq;obtain⟨k,af,Z',b4,rfl,hk,I',S',CY,hh⟩:=je _ _ jq;clear jq je
    by_cases tJ:k<items.length
    .have hd:items[k]? = some items[k]:=ZG tJ
     rw[ZJ tJ]at hh;generalize items[k]=d at hd hh;rw[mL]at hh;refine mD W CY I' S' hd (λac az p=>p) λval ri zM ac ul uj Cf sS az cL=>?_
     split at hh
     .exact ah hh
     .rename_i tQ he
      refine te ok (R.hh gL) tg he (Cf.clr cw) ul λoS ac gr qS=>?_
      have qR:=sS.trans qS
      rcases aX hh with⟨e,f,hm,rfl⟩|⟨kk,f,hm,hh⟩
      .exact YR (Hb af zM oS tQ _ hm gr (S.trans qR)) (λfl rg p=>by obtain⟨_,_,_,q,_⟩:=p;exact pQ q) λac az x=>kT ok.en kE (x.up (λac h=>h) qR)
      .refine YR (Hb af zM oS tQ _ hm gr (S.trans qR)) (λfl rg p=>?_) λac az x=>x.elim
       obtain⟨k',f7,oD,q,jI,lO,r⟩:=p;obtain rfl:=lQ q;dsimp only at jI;cases kk with
       |next=>
        cases r;exact⟨items.length+1-(k+1),kr hk,ji _ _ ⟨k+1,f7,oD,f,rfl,tJ,jI,qR.trans lO,(uj.step W (Cf.clr cw) qS).step W gr lO,hh⟩⟩
       |ret rv=>
        obtain rfl:=aF hh;obtain⟨v,r⟩:=r;refine Er r.1 ?_;exact kQ _ _ ⟨.ret rv,f7,oD,rfl,jI,qR.trans lO,v,rfl,r.2⟩
    .have Lm:k=items.length:=Zi hk (Nat.not_lt.mp tJ)
     subst Lm;rw[List.drop_length,cQ]at hh;obtain rfl:=aF hh;refine mE W CY I' S' λd4 zY GA kp ac=>wpAny_execs_nil (kQ _ _ ⟨.next,af,Z',rfl,zY.clr cw,GA,rfl⟩)
inductive JB (y:Lay) (bv:List Nat) (own:Addr->Option Nat) (Z:Addr->Prop) (s:Shared) (c:dj) (z:Ex) (xb:List Mv.St) (cw:List Nat) (out:Except Str ey×Fm) (m:Nat) (s':Shared):Prop
 |mk (af:Addr->Option Nat) (Z':Addr->Prop) (b4:Fm):Inv y af Z' s'.heap b4->Step y bv own Z s af Z' s'->ms c b4 z xb cw m=some out->JB y bv own Z s c z xb cw out m s'
theorem Du {t:Expr} {z:Ex} {xb:List St} (R:Rn A c n) (ok:eJ A sc env y c bv am) (ce:CE sc t z) (Hb:SS A c y bv am Z₀ s₀ (execs body env) xb):
  mi A c y bv am Z₀ s₀ (exec (.While t body [] pos) env) (.whl z xb cw):=by
 refine mi.of λown Z s fr out Q E kQ kE h I S=>?_
 rw[tW]at h;cases gL:c.hd with
 |true=>rw[gL]at h;exact ah h
 |false=>
 rw[gL]at h;have h:=(YW Z6)▸h;refine EF (JB y bv own Z s c z xb cw out) λJ je ji=>?_
 refine wpAny_While (codeAny_whileLoop J (λm s' hI=>?_) Sz (ji _ _ ⟨own,Z,fr,I,.refl,h⟩));obtain⟨af,Z',b4,I',S',hh⟩:=je _ _ hI;clear hI je;cases m with
 |zero=>exact ah hh
 |succ m=>
  rw[oM]at hh
  rcases aX hh with⟨e,f,hm,rfl⟩|⟨b,f,hm,hh⟩
  .exact YR (wQ (Q:=λac az=>False) (bv:=bv) ok.en ce (bA R sc _ ce env y ok.en).2 hm (I'.clr cw) .refl (λr an h=>by cases hd:bO an r with
    |none=>rw[hd]at h;exact ah h
    |some d=>exact⟨d,rfl⟩) λr d an aj aI aA h hd aC aU=>by have h:=hd▸h;cases h) (λac az q=>q.elim) λac az x=>kT ok.en kE (x.up (λac h=>h) S')
  refine YR (wQ (bv:=bv) ok.en ce (bA R sc _ ce env y ok.en).2 hm (I'.clr cw) .refl (λr an h=>?_) λr d an aj aI aA h hd aC aU=>?_) (λac az q=>q) λac az x=>x.elim
  .cases hd:bO an r with
   |none=>rw[hd]at h;exact ah h
   |some d=>exact⟨d,rfl⟩
  .rw[hd]at h
   have u:=rG h;obtain rfl:=u.1;obtain rfl:=u.2;have m5:=S'.trans aU;cases hb:tD d with
   |false=>
    rw[hb]at hh;obtain rfl:=aF hh;exact Er (YW Z6) (wpAny_execs_nil (kQ _ _ ⟨.next,aj,aI,rfl,aC,m5,rfl⟩))
   |true=>
    rw[hb]at hh;refine Er (YV rfl) ?_
    rcases aX hh with⟨e,f',Iv,rfl⟩|⟨kk,f',Iv,hh⟩
    .exact YR (Hb aj aI aA _ _ Iv aC (S.trans m5)) (λfl rg p=>by obtain⟨_,_,_,q,_⟩:=p;exact pQ q) λac az x=>kT ok.en kE (x.up (λac h=>h) m5)
    refine YR (Hb aj aI aA _ _ Iv aC (S.trans m5)) (λfl rg p=>?_) λac az x=>x.elim
    obtain⟨k',f7,oD,q,jI,lO,r⟩:=p;obtain rfl:=lQ q;cases kk with
    |next=>
     cases r;exact⟨m,lt_succ_self m,ji _ _ ⟨f7,oD,f',jI,m5.trans lO,hh⟩⟩
    |ret rv=>
     obtain rfl:=aF hh;obtain⟨v,r⟩:=r;refine Er r.1 ?_;exact kQ _ _ ⟨.ret rv,f7,oD,rfl,jI,m5.trans lO,v,rfl,r.2⟩
theorem AK {n':Int} {out:Except Str ey×Fm} (h:qv c (.rpl i j n') fr=some out):∃x v,fr[i]? = some (.fz (.str x))/\fr[j]? = some (.fz (.int v))/\(if v=n' then(match pc x with|some d=>some ((.ok (.ret (.fz d)):Except Str ey),fr)|none=>none) else some (.ok .next,fr))=some out:=by
 rw[tX]at h
 split at h
 .exact⟨_,_,by assumption,by assumption,h⟩
 .exact ah h
theorem Dw {x v:Str} {n':Int} {p1 p2 p3 p4 p5 p6 p7 p8 p9:Pos} {k1 k2 k3 k4:Nat} (R:Rn A c n) (ok:eJ A sc env y c bv am) (hx:sc.isV x i) (hv:sc.isV v j) (hl:(ap.endLine==pos.line)=true):
  mi A c y bv am Z₀ s₀ (exec (.If (.Compare (.Name v p1) [.Eq] [.Constant (.int n') k1 p2] p3) [.Return (some (.Call (.Attribute (.Name x p4) "replace" ap) [.Constant (.str ⟨#[32,61,32]⟩) k2 p5,.Constant (.str ⟨#[32]⟩) k3 p6,.Constant (.int 1) k4 p7] [] pos)) p8] [] p9) env) (.rpl i j n'):=by
 intro own Z s fr out h I S;refine fW (AK h) λX V U=>?_;have hi:=U.1;have hj:=U.2.1;have h:=U.2.2
 obtain⟨lx,vx,Ol,Oe,rx⟩:=I.at' i _ hi (λq=>by cases q);obtain⟨lv,vv,M5,Of,rv⟩:=I.at' j _ hj (λq=>by cases q);obtain⟨t,rfl,MD,hn⟩:=(bS.dat (show bS s.heap Z vx (.str X) from rx)).str;obtain⟨u,rfl⟩:=(bS.dat (show bS s.heap Z vv (.int V) from rv)).int;refine wpAny_If (wpAny_isTrue_Compare1 (dn ok.en hv M5 Of (wpAny_Constant_int (k:=k1) (pos:=p2) (PyProof.Rows.eq_int (wpAny_truthy_bool ?_)))) rfl)
 by_cases q:V=n'
 .rw[YV q]at h
  rw[YV (by simpa using q)];cases hd:pc X with
  |none=>rw[hd]at h;exact ah h
  |some d=>
   rw[hd]at h;refine Er (aF h).symm ?_;unfold pc at hd;cases hp:cz [32,61,32] X.cps.toList with
   |none=>rw[hp]at hd;exact ah hd
   |some pq=>
    rw[hp]at hd;have Q:=d9 hd;refine Er Q.2.symm ?_;have hS:=aY (tk:=s.toks+1) (Step.refl (y:=y) (bv:=bv) (own:=own) (Z:=Z) (s:=s));refine wpAny_execs_cons (wpAny_Return_some (wpAny_Call_method_late (fi rfl) rfl hl rfl (dn (s:= {s with toks:=s.toks+1}) ok.en hx Ol Oe
     ⟨"str","str.replace",PySem.F.plainAttrs_str,PySem.F.slot_str_replace,PySem.F.type_str_replace,YT _ _ _,(fun ac e=>nomatch e),Z2 (first:=[.str X t]) rfl (Z1 (Z0 (wpAny_Constant_str (k:=k2) (pos:=p5)
      (Z0 (wpAny_Constant_str (k:=k3) (pos:=p6) (Z0 (wpAny_Constant_int (k:=k4) (pos:=p7) (ZZ ?_))))))))⟩)))
    refine B3 (p:=pq.1) (q:=pq.2) (by simp) (by simp) (by decide) (λz=>by cases z) hp Q.1 λt' tk=>?_
    obtain⟨m1,m2⟩:=xe hp;refine⟨.ret (.fz (sT (pq.1++[32]++pq.2))),own,Z,rfl,I,(show Step y bv own Z s own Z {s with toks:=tk} from aY .refl),_,rfl,(show bS s.heap Z _ _ from .str _ t' ((gF _).mpr λd hd=>?_) ?_),_,rfl⟩
    .rcases mem_append.mp hd with hd|hd
     .rcases mem_append.mp hd with hd|hd
      .exact gE MD d (m1 d (.inl hd))
      .refine Er (List.mem_singleton.mp hd) ?_;decide
     .exact gE MD d (m1 d (.inr hd))
    .refine Er Zj (Er ZE (Er ZE ?_))
     have m3:X.cps.toList.length=X.cps.size:=Z8;show pq.1.length+1+pq.2.length<=Sz
     omega
 .rw[YW q]at h
  rw[YW (by simpa using q)];refine Er (aF h).symm ?_;exact wpAny_execs_nil ⟨.next,own,Z,rfl,I,aY .refl,rfl⟩
end
theorem sW {m':Str->Option Value} (x:h.Ns a m) (z:h.Ns a m') (k:Str):m k=m' k:=by
 refine jm x λo es ep x=>?_;have ho:=x.1;have hd:=x.2.1;have hk:=x.2.2.1;have hf:=x.2.2.2
 obtain⟨o',Kb,Kc,qX,di,f5,CJ⟩:=z;rw[ho]at qX;obtain rfl:=aF qX;have di:=hd▸di;cases di;rw[<- hf,CJ]
section
variable {A:Around} {c:dj} {n:Nat} {env:Env} {sc:Sc} {y:Lay}
 {bv bv':List Nat} {own ae am af:Addr->Option Nat} {Z aw Z₀ Z':Addr->Prop} {s s₁ s₀ s':Shared} {fr av:Fm}
theorem wK {HW:Str} {np lD:Pos} (R:Rn A c n) (ok:eJ A sc env y c bv am) (hg:sc.isG k) (hk:k∈tb.cl):
  mi A c y bv am Z₀ s₀ (exec (.Raise (some (.Call (.Name k np) [.Constant (.str HW) kk ap] [] lD)) none pos) env) (.raise k):=by
 intro own Z s fr out h I S;rw[mO]at h;cases gL:c.hd with
 |true=>rw[gL]at h;exact ah h
 |false=>
 rw[gL,YW Z6]at h;refine Er (aF h).symm ?_;refine aM λG g1=>?_
 obtain⟨C,Bb,newId,gJ,bm,O,FB⟩:=R.gd.cl k hk;obtain⟨tl,N,nm,q,bs,hdct,sn,sub,ab,col,dd,k0,k1,k2,k3,k5,mN,hC,hN,hq,T⟩:=O.obj;refine g1 ?_;refine wpAny_Raise_call_subT (C:=C) (nm:=nm) (q:=q) (N:=N) (bs:=bs) (bm:=tl) (hdct:=hdct) (sn:=sn) (sub:=sub) (ab:=ab) (col:=col) (dd:=dd) (k0:=k0) (k1:=k1) (k2:=k2) (k3:=k3) (k5:=k5)
  FB (mN:=mN) (T.tail.hasType FB.hasBase) (R.hh gL) rfl (hq _ (.head _)) (hH R.gd ok.en I hg O.bound ⟨rfl,?_⟩)
 refine Z1 (Z0 (wpAny_Constant_str (k:=kk) (pos:=ap) (ZZ ?_)));refine⟨rfl,(by show 1<=sizeLine;decide),I.base _ _ hC,hN.keeps I.base,T.tail.keeps I.base,λh' e hm=>?_⟩;exact aQ hm.there λt Q=>(⟨k,e,own,Z,rfl,rfl,I.grow hm.keeps,.grow hm.keeps,⟨hm.new,(I.fresh hm.new)⟩,_,_,C,mg,Q.1,⟨rfl,rfl⟩,rfl,R.gd.g,O.bound,.inl rfl⟩)
theorem Dv {x cn:Str} {p hp pos:Pos} {no:List Str} {hs:List Stmt} {h0:Stmt} {xb xh:List St} (R:Rn A c n) (ok:eJ A sc env y c bv am) (hx:sc.isV x i) (N5:sc.names.lookup x=some .local) (LG:sc.isG cn) (MW:tb.sub.lookup cn=some (yes,no))
  (Hb:SS A c y bv am Z₀ s₀ (execs body env) xb) (Hh:∀a,SS (A.mark (some (.ref a))) {c with hd:=true} y bv am Z₀ s₀ (execs (h0::hs) env) xh):
  mi A c y bv am Z₀ s₀ (exec (.Try body [.ExceptHandler (some (.Name cn p)) (some x) (h0::hs) hp] [] [] pos) env) (.try_ xb yes i xh):=by
 refine mi.of λown Z s fr out Q E kQ kE h I S=>?_
 rw[om]at h;cases gL:c.hd with
 |true=>rw[gL]at h;exact ah h
 |false=>
 rw[gL]at h;have h:=(YW Z6)▸h;refine wpAny_Try_except ?_
 rcases hb:du c xb fr with _|⟨nm|k,av⟩
 .have h:=hb▸h;exact ah h
 .rw[hb,oQ]at h
  by_cases hy:yes.contains nm=true/\ ¬c.pin.contains i=true
  rotate_left
  .have h:=(YW hy)▸h;exact ah h
  rw[YV hy]at h
  rcases hh:du {c with hd:=true} xh (av.set i (.exc nm)) with _|⟨e|k,an⟩
  .have h:=hh▸h;exact ah h
  .rw[hh]at h;exact ah h
  rw[hh,Ae]at h;obtain rfl:=aF h;refine YR (Hb own Z s fr _ hb I S) (λfl s' p=>?_) λev s₁ p=>?_
  .obtain⟨_,_,_,q,_⟩:=p;exact pQ q
  obtain⟨HH,a,ae,aw,q1,rfl,ay,ba,X⟩:=p;refine aM λG2 g3=>?_
  cases q1;dsimp only at ay;obtain⟨e0,dU,U⟩:=ok.en.top;obtain⟨l,u⟩:=iL ay ok.en.stk;have df:=u.1;have FF:=u.2.1;have IA:=u.2.2;rw[U.1]at df;obtain rfl:=aF df;obtain⟨V,J⟩:=R.gd.ask cn yes no MW;refine g3 ?_;refine mF U.1 U.2 FF ok.en.frame X (λb e=>⟨ba.old b e,ay.fresh e⟩) λiZ lv lN=>?_
  have aC:=ay.lv lv (λb p=>p.2) IA;have aU:Step y bv own Z s ae aw {s₁ with heap:=iZ}:=ba.lv ay lv (λb p=>p) IA;have Nq:aS (A.mark (some (.ref a))) sc env y:= {ok.en with stk:=ok.en.stk,top:=ok.en.top}
  refine wpAny_handleBy_cons (codeAny_handlers_test (kW (s:= {s₁ with heap:=iZ}) R.gd Nq aC LG J.1 ?_)) (by intro q;cases q);refine aM λG g1=>?_
  obtain⟨pa,oe,vs,C,m,he,hc,k9⟩:=id lN;refine g1 ?_;refine((J.2 nm C ((sW R.gd.g k9.2.1 nm).trans k9.2.2.1)).1 (contains_iff_mem.mp hy.1) prog w _ _ {s₁ with heap:=iZ} a oe aC.base he ⟨hc.1,hc.2,vs,k9.1⟩).1 _ ?_;dsimp only;refine codeAny_handlers_suite_as (xY (s:= {s₁ with heap:=iZ}) lN λpV pL zN=>?_);have gu:=Inv.lv (s:= {s₁ with heap:=iZ}) aC pL (λb p=>p.2) λac f=>f.elim
  have iw:Step y bv own Z s ae aw {s₁ with heap:=pV}:=aU.lv aC pL (λb p=>p) λac f=>f.elim
  refine aM λG1 g2=>?_
  obtain⟨pa,oe,vs,C,m,he,hc,k9⟩:=zN;have jJ:=gu.addZ pa.2.1 pa.2.2.1 he;have zP:=iw.addZ pa.1;obtain⟨l,hl⟩:=ok.loc hx.1;have M9:=ok.bvi hx.1 λq=>hy.2 (contains_iff_mem.mpr q)
  refine g2 ?_;refine cZ (s:= {s₁ with heap:=pV}) Nq hx.1 (ok.nf x i hx.1) hl jJ λyu tk PT=>?_
  have sv:eD yu (λb=>aw b\/b=a) (λb=>ae b=some i) (.exc nm) (.ref a):=by
   refine jm (id R.gd.g) λo es ep Q=>?_
   have zm:aw mainGlobals\/mainGlobals=a:=.inl (ay.zb _ o Q.1);refine⟨a,oe,C,mg,rfl,.inr rfl,PT.keep a oe (λq=>jJ.zl i l hl (.inr q.symm)) he,⟨hc.1,hc.2,vs,k9.1⟩,zm,?_,(sW R.gd.g k9.2.1 nm).trans k9.2.2.1⟩;exact(R.gd.g.keeps jJ.base).at' λo e=>PT.keep _ o (λq=>jJ.zl i l hl (q▸zm)) e
  have sS:Step y bv own Z s ae (λb=>aw b\/b=a) {s₁ with heap:=yu,toks:=tk}:=zP.trans ((PT.step (s:= {s₁ with heap:=pV}) hl jJ).sub λj hj=>by refine Er (List.mem_singleton.mp hj) ?_;exact M9);refine YR (Hh a ae _ {s₁ with heap:=yu,toks:=tk} _ _ hh ((jJ.chg hl PT.keep PT.oth PT.ok PT.ns).setSl hl PT.rd sv) (S.trans sS)) (λfl oS p=>?_) λac az x=>x.elim
  obtain⟨k',rC,FM,q,gr,qS,r⟩:=p;obtain rfl:=lQ q;have tJ:=(ok.kd x).trans N5;have wb:l = .dict env.locals x:=by
   rcases ok.en.var x i hx.1 with⟨_,e⟩|⟨q|⟨q,_⟩,_⟩
   .rw[hl]at e;exact Y5 e
   .have q:=tJ▸q;cases q
   .have q:=tJ▸q;cases q
  subst wb;obtain⟨NV,CH⟩:=gr.ok i _ hl;refine wpAny_nameGoes_keeps tJ CH (by refine Er ok.en.kind ?_;rfl) λyt v mH sb=>?_
  have kp:∀b o,b≠env.locals->oS.heap.get? b=some o->yt.get? b=some o:=λb o q e=>sb.extBut b o q e
  have oth:∀j k w,j≠i->y.loc j=some k->im oS.heap k w->im yt k w:=λj k w hj hk r=>by
   by_cases q:k.addr=env.locals
   .obtain⟨b,x',z,e1,e2,K0⟩:=gr.wf.apart j i k _ hk hl hj q
    cases e2;subst e1;refine aQ r λm' r=>?_
    refine⟨_,mH,?_⟩;rw[YW K0,<- sW r.1 CH];exact Er r.2 rfl
   .exact r.keeps λo e=>kp _ o q e
  have KH:∀j k,y.loc j=some k->rH yt k:=λj k hk=>by
   by_cases q:k.addr=env.locals
   .cases k with
    |dict b z=>cases q;exact⟨_,mH⟩
    |cell b=>
     by_cases qY:j=i
     .subst qY;have hk:=hl▸hk;cases hk
     .refine jm (gr.wf.apart j i _ _ hk hl qY q) λac az cL q0=>?_;have e1:=q0.1;cases e1
   .exact(gr.ok j k hk).keeps λo e=>kp _ o q e
  have nsL:∃m,yt.Ns y.L m:=by
   by_cases q:y.L=env.locals
   .exact⟨_,q▸mH⟩
   .exact aQ gr.nsL λm hm=>(⟨m,hm.sameBut sb q⟩)
  have CZ:Step y bv rC FM oS rC FM {oS with heap:=yt,toks:=oS.toks+1}:=by
   refine⟨⟨_,_,rfl⟩,⟨λb o e nw ac=>kp b o (λq=>nw (.inr (.inr ⟨i,_,hl,q.symm⟩))) e,λb o e=>?_,λb o f e=>⟨o.slots,kp b o (λq=>gr.wf.nf i _ hl (q▸f)) e⟩⟩,λac z=>z,λac z=>.inl z,λac az e=>.inl e,λj k w nb hk r=>oth j k w (λq=>nb (q▸M9)) hk r⟩
   by_cases q:b=env.locals
   .subst q;refine jm mH λo' ac az mH=>?_;have e':=mH.1;exact⟨o',e'⟩
   .exact⟨o,kp b o q e⟩
  refine kQ _ _ ⟨k,rC,FM,rfl,gr.chg hl kp oth KH nsL,(sS.trans qS).trans CZ,?_⟩;cases k with
  |next=>exact r
  |ret rv=>
   obtain⟨v,rfl,r,d,hd⟩:=r;exact⟨v,rfl,CZ.rv gr (λj hj=>by have hj:=(jw hd)▸hj;cases hj) r,d,hd⟩
 .rw[hb,td]at h
  obtain rfl:=aF h;refine YR (Hb own Z s fr _ hb I S) (λfl s' p=>?_) λac az x=>x.elim
  obtain⟨k',af,Z',q,I',S',r⟩:=p;obtain rfl:=lQ q;cases k with
  |next=>cases r;exact wpAny_execs_nil (kQ _ _ ⟨.next,af,Z',rfl,I',S',rfl⟩)
  |ret rv=>obtain⟨v,r⟩:=r;refine Er r.1 ?_;exact kQ _ _ ⟨.ret rv,af,Z',rfl,I',S',v,rfl,r.2⟩
theorem GS {st:Stmt}:mi A c y bv am Z₀ s₀ (exec st env) .no:=by
 intro own Z s fr out h I S;exact ah h
set_option tactic.hygienic true in
theorem qQ {is:List Nat} {r:Rv} {an:Fm} (h:asgT pin fr (.tup is) r=some an):∃ds,bU r=some (.tuple ds)/\lM pin fr is ds=some an:=by
 have h:(match bU r with|some (.tuple ds)=>lM pin fr is ds|_=>none)=some an:=h
 split at h
 .rename_i ds hd;exact⟨ds,hd,h⟩
 .exact ah h
theorem yG {is:List Nat} {e:Ex} {out:Except Str ey×Fm} (h:qv c (.asg (.tup is) e) fr=some out):c.hd=false/\ex (k:=⟨λr fr=>match asgT c.pin fr (.tup is) r with|some fr=>some (.ok .next,fr)|none=>none⟩) (ev c e fr)=some out:=by
 rw[oo]at h;cases hh:c.hd with
 |true=>rw[hh]at h;exact ah h
 |false=>rw[hh]at h;exact⟨rfl,h⟩
set_option tactic.hygienic true in
theorem Ap {is:List Nat} {k:Nat} {p:Pos} {e:Ex} (R:Rn A c n) (ok:eJ A sc env y c bv am) (tg:TGs sc es is) (ce:CE sc value e) (hc:iJ value=true) (ht:pB value=true):
  mi A c y bv am Z₀ s₀ (exec (.Assign [.Tuple es k p] value pos) env) (.asg (.tup is) e):=by
 intro own Z s fr out h I S;have Q:=yG h;have gL:=Q.1;have h:=Q.2;refine Assign_Tuple (rp ok.en ce (bA R sc _ ce env y ok.en).1 h I .refl λr an aj aI aA v bg h aC ba aU iS=>?_) (show swapsWith value (some (.Tuple es k p)) pos.line env=pure false from gx ce hc) (rj ce ht)
 split at h
 .rename_i ff he
  refine Er (aF h).symm ?_;refine aQ (qQ he) λds q=>?_
  obtain⟨fZ,gu,iw,sU⟩:=iS.freeze aC ba q.1;exact te (t:=.tup is) ok (R.hh gL) (.tup (k:=k) (p:=p) tg) (d:=.tuple ds) q.2 gu sU λs' ac I' S'=>(⟨.next,aj,fZ,rfl,I',(iw.sub λac h=>by cases h).trans S',rfl⟩)
 .exact ah h
theorem GP {x x':Str} {p tp vp:Pos} {k:Nat} {a b:Expr} (hk:env.scope.kind = .function) (kd:∀x,env.kindOf x=sc.names.lookup x) (h:zR sc x x' p p' a b):
  swappedStores [.Tuple [.Name x p,.Name x' p'] k tp] (.Tuple [a,b] kk vp) env=pure (some [x,x']):=by
 have hb:env.blockKind = .function:=by unfold Env.blockKind;refine Er hk ?_;rfl
 have e1:(env.kindOf x==some .local)=true:=by rw[kd];refine Er h.2.2.1 ?_;rfl
 have e2:(env.kindOf x'==some .local)=true:=by rw[kd];refine Er h.2.2.2.1 ?_;rfl
 have n2:(x==x')=false:=by simpa using h.2.1
 have n3:(x'==x)=false:=by simpa using λq=>h.2.1 q.symm
 have ed:([x,x'].eraseDups.length != 2)=false:=by
  refine Er List.eraseDups_cons (Er filter_cons (Er n3 ?_));rfl
 unfold swappedStores;refine(YW ?_).trans ((YW ?_).trans ?_)
 .exact Er hb Z6
 .show ¬((ti a||(ti b||false))=true)
  exact Er h.2.2.2.2.2.2.1 (Er h.2.2.2.2.2.2.2 Z6)
 dsimp only;rw[List.filterMap_cons_some (a:=Expr.Name x p) (b:=x),List.filterMap_cons_some (a:=Expr.Name x' p') (b:=x')]
 .refine(YW ?_).trans ((YW ?_).trans (YW ?_))
  .exact Er ed Z6
  .show ¬((foldedForSure 8 a&&(foldedForSure 8 b&&true))=true)
   exact Er h.2.2.2.2.1 Z6
  .show ¬((constantsAlone 8 a&&(constantsAlone 8 b&&true))=true)
   exact Er h.2.2.2.2.2.1 Z6
 .show(if (env.kindOf x'==some .local&&p'.line==p.line)=true then some x' else none)=some x'
  refine Er e2 (Er h.1 ?_);rfl
 .show(if (env.kindOf x==some .local&&p.line==p.line)=true then some x else none)=some x
  refine Er e1 ?_;rw[beq_self_eq_true];rfl
theorem Ik {c:Prop} [Decidable c] {x:Option α} {r:α} (h:(if c then none else x)=some r):¬c/\x=some r:=by
 by_cases q:c
 .rw[YV q]at h;exact ah h
 .rw[YW q]at h;exact⟨q,h⟩
theorem Jx {ds:List D} {ff:Fm} (h:lM pin fr [i,j] ds=some ff):∃da db,ds=[da,db]/\ ¬pin.contains i=true/\ ¬pin.contains j=true/\(fr.set i (.fz da)).set j (.fz db)=ff:=by
 match ds,h with
 |[],h=>exact ah h
 |da::ds,h=>
  obtain⟨q1,h⟩:=Ik (show(if pin.contains i then none else lM pin (fr.set i (.fz da)) [j] ds)=some ff from h)
  match ds,h with
  |[],h=>exact ah h
  |db::ds,h=>
   obtain⟨q2,h⟩:=Ik (show(if pin.contains j then none else lM pin ((fr.set i (.fz da)).set j (.fz db)) [] ds)=some ff from h)
   match ds,h with
   |[],h=>exact⟨da,db,rfl,q1,q2,aF h⟩
   |_::_,h=>exact ah h
theorem ao.two {Zz:Addr->Prop} {da db:D} (R:ao h Zz vs [da,db]):∃va vb,vs=[va,vb]/\bS h Zz va da/\bS h Zz vb db:=by
 cases R with
 |cons ra R=>
  cases R with
  |cons rb R=>cases R;exact⟨_,_,rfl,ra,rb⟩
set_option tactic.hygienic true in
theorem Aq {x x':Str} {p tp vp:Pos} {k:Nat} {a b:Expr} {ea eb:Ex} (R:Rn A c n) (ok:eJ A sc env y c bv am) (hx:sc.isV x i) (wa:sc.isV x' j) (qY:i≠j) (sw:zR sc x x' p p' a b) (ce:CE sc (.Tuple [a,b] kk vp) (.tup [ea,eb])):
  mi A c y bv am Z₀ s₀ (exec (.Assign [.Tuple [.Name x p,.Name x' p'] k tp] (.Tuple [a,b] kk vp) pos) env) (.asg (.tup [i,j]) (.tup [ea,eb])):=by
 intro own Z s fr out h I S;have U:=yG h;have gL:=U.1;have h:=U.2;refine Assign_Tuple_swapped (names:=[x,x']) (rp ok.en ce (bA R sc _ ce env y ok.en).1 h I .refl λr an aj aI aA v bg h aC ba aU iS=>?_) (show swapsWith (.Tuple [a,b] kk vp) (some (.Tuple [.Name x p,.Name x' p'] k tp)) pos.line env=pure false from gx ce rfl) (GP ok.en.kind ok.kd sw)
 split at h
 .rename_i ff he
  refine Er (aF h).symm ?_;refine aM λG g=>?_
  refine aQ (qQ he) λds u=>?_
  obtain⟨fZ,gu,iw,sU⟩:=iS.freeze aC ba u.1;cases sU with
  |@tuple t vs m _ z ht hn RA=>
   refine g ?_;refine fW (Jx u.2) λda db Q=>?_;obtain rfl:=Q.1;refine Er Q.2.2.2.symm ?_
   refine fW (ao.two RA) λva vb q=>?_;obtain rfl:=q.1
   refine Er (List.set_comm _ _ qY) ?_;refine unpackItems_tuple (items:=[va,vb].toArray) (R.hh gL) ⟨_,ht,rfl,_,rfl⟩ λh' ext=>?_
   have kp:∀b o,aA.heap.get? b=some o->h'.get? b=some o:=λb o e=>ext b o (ne_of_lt (ZV e)) e
   refine aQ (ok.loc hx.1) λl hl=>?_
   refine aQ (ok.loc wa.1) λl' df=>?_
   have jJ:=gu.grow kp;have zP:Step y bv own Z s aj fZ {aA with heap:=h'}:=(iw.sub λac h=>by cases h).trans (.grow (tk:=aA.toks) kp);refine assignInOrder_cons (wpAny_bindName (cZ (s:= {aA with heap:=h'}) ok.en wa.1 (ok.nf _ j wa.1) df jJ λh5 tk P=>?_));have S5:Step y bv aj fZ {aA with heap:=h'} aj fZ {aA with heap:=h5,toks:=tk}:=(P.step df jJ).sub λj' hj=>by exact Er (List.mem_singleton.mp hj) (ok.bvi wa.1 λz=>Q.2.2.1 (contains_iff_mem.mpr z))
   have I5:=P.fz jJ df (q.2.2.mono (λb o ac=>kp b o) λac z=>z);refine assignInOrder_cons (wpAny_bindName (cZ (s:= {aA with heap:=h5,toks:=tk}) ok.en hx.1 (ok.nf _ i hx.1) hl I5 λh6 NC P6=>?_));have S6:Step y bv aj fZ {aA with heap:=h5,toks:=tk} aj fZ {aA with heap:=h6,toks:=NC}:=(P6.step hl I5).sub λj' hj=>by exact Er (List.mem_singleton.mp hj) (ok.bvi hx.1 λz=>Q.2.1 (contains_iff_mem.mpr z))
   exact assignInOrder_nil ⟨.next,aj,fZ,rfl,(P6.fz I5 hl (S5.rep jJ (q.2.1.mono (λb o ac=>kp b o) λac z=>z))),zP.trans (S5.trans S6),rfl⟩
 .exact ah h
end
end Mv
namespace Mv
open PySem PyProof.Rows
noncomputable def AG (d:DefRec) (names:List Str):Sc:=⟨d.scope.names,names.zipIdx,names.length⟩
structure Mj (d:DefRec) (fn:Fn) (names:List Str):Prop where
 nd:names.Nodup
 np:fn.np<=names.length
 kinds:∀x∈names,d.scope.names.lookup x=some .local\/d.scope.names.lookup x=some .cell
 bind:∀vs:List Value,vs.length=fn.np-> ∀pm code qE,bindArgs (docDef d.name d.params d.body d.scope pm code qE) ⟨vs,[]⟩=pure ((names.take fn.np).zip vs)
 body:Mn (AG d names) d.body fn.body
 co:d.scope.isCoroutine=false
 gen:d.scope.isGenerator=false
 kind:d.scope.kind = .function
 nofree:∀x∈d.scope.names,x.2≠ .free
variable [Hp]
section
variable {A:Around} {c:dj} {n:Nat} {env:Env} {sc:Sc} {y:Lay}
 {bv bv':List Nat} {own ae am af:Addr->Option Nat} {Z aw Z₀ Z':Addr->Prop} {s s₁ s₀ s':Shared} {fr av:Fm}
theorem Rn.mark (R:Rn A c n) (a:Addr):Rn (A.mark (some (.ref a))) {c with hd:=true} n:=⟨R.gd,R.cs,R.dep,R.un,λq=>by cases q⟩
theorem eJ.mark (ok:eJ A sc env y c bv am) (a:Addr):eJ (A.mark (some (.ref a))) sc env y {c with hd:=true} bv am:=⟨{ok.en with stk:=ok.en.stk,top:=ok.en.top},ok.nf,ok.bv,ok.pin,ok.ni,ok.kd⟩
def SQ (A:Around) (c:dj) (y:Lay) (bv:List Nat) (am:Addr->Option Nat) (Z₀:Addr->Prop) (s₀:Shared) (env:Env):Sw->Prop
 |.st s z=>mi A c y bv am Z₀ s₀ (exec s env) z
 |.ss ss zs=>SS A c y bv am Z₀ s₀ (execs ss env) zs
theorem DD:∀ {ss:List Stmt} {zs:List St},Mn sc ss zs-> ∀(A:Around) (c:dj) (R:Rn A c n) (ok:eJ A sc env y c bv am),SS A c y bv am Z₀ s₀ (execs ss env) zs:=by
 have H:=λq h=>@CT.rec sc (λq ac=> ∀(A:Around) (c:dj) (R:Rn A c n) (ok:eJ A sc env y c bv am),SQ A c y bv am Z₀ s₀ env q)
  (λhx ce A c R ok=>DB R ok hx ce) (λhx ce ck A c R ok=>Am R ok hx ce ck) (λhx ce hp A c R ok=>DC R ok hx ce hp) (λce ac az ia ib A c R ok=>Dz R ok ce (ia A c R ok) (ib A c R ok)) (λce A c R ok=>Dx R ok ce) (λA c R ok=>An)
  (λtg iK ac ib A c R ok=>DA R ok tg iK (ib A c R ok)) (λce ac ib A c R ok=>Du R ok ce (ib A c R ok)) (λhg hk A c R ok=>wK R ok hg hk) (λhx hl LG hs ac az ib ih A c R ok=>Dv R ok hx hl LG hs (ib A c R ok) λa=>ih _ _ (R.mark a) (ok.mark a)) (λtg ce hc ht A c R ok=>Ap R ok tg ce hc ht) (λhx wa qY sw ce A c R ok=>Aq R ok hx wa qY sw ce) (λA c R ok=>GS) (λhx hv hl A c R ok=>Dw R ok hx hv hl) (λA c R ok=>Dy) (λac az i1 i2 A c R ok=>Ao (i1 A c R ok) (i2 A c R ok)) q h
 intro ss zs h;exact H _ h
end
theorem sL {k:Str->Option NameKind}:∀(bs:List (Str×Value)) (m:Str->Option Value) (x:Str),x∉bs.map (·.1)->bindL k bs m x=m x:=by
 intro r m x h
 induction r generalizing m x with
 |nil=>exact rfl
 |cons p0 r ih=>
  obtain⟨n,v⟩:=p0;simp only[Zt,mem_cons,not_or]at h;unfold bindL;refine Er (ih _ x h.2) ?_
  split
  .exact YW h.1
  .rfl
theorem mV {k:Str->Option NameKind}:∀(bs:List (Str×Value)) (m:Str->Option Value) (i:Nat) (x:Str) (v:Value),(bs.map (·.1)).Nodup->bs[i]? = some (x,v)->k x=some .local->bindL k bs m x=some v
 |[],_,_,_,_,_,h,_=>by simp at h
 |(n,u)::r,m,0,x,v,hn,h,hk=>by
  simp at h;obtain⟨rfl,rfl⟩:=h;unfold bindL;refine Er (sL r _ n (nodup_cons.mp hn).1) (Er (YV hk) ?_);simp
 |(n,u)::r,m,i+1,x,v,hn,h,hk=>by
  unfold bindL;exact mV r _ i x v (nodup_cons.mp hn).2 h hk
theorem sM {k:Str->Option NameKind}:∀(bs:List (Str×Value)) (m:Str->Option Value) (x:Str),x∉bs.map (·.1)->bindC k bs m x=m x:=by
 intro r m x h
 induction r generalizing m x with
 |nil=>exact rfl
 |cons p0 r ih=>
  obtain⟨n,v⟩:=p0;simp only[Zt,mem_cons,not_or]at h;unfold bindC;refine Er (ih _ x h.2) ?_
  split
  .rfl
  .exact YW h.1
theorem mW {k:Str->Option NameKind}:∀(bs:List (Str×Value)) (m:Str->Option Value) (i:Nat) (x:Str) (v:Value),(bs.map (·.1)).Nodup->bs[i]? = some (x,v)->k x≠some .local->bindC k bs m x=some v
 |[],_,_,_,_,_,h,_=>by simp at h
 |(n,u)::r,m,0,x,v,hn,h,hk=>by
  simp at h;obtain⟨rfl,rfl⟩:=h;unfold bindC;refine Er (sM r _ n (nodup_cons.mp hn).1) (Er (YW hk) ?_);simp
 |(n,u)::r,m,i+1,x,v,hn,h,hk=>by
  unfold bindC;exact mW r _ i x v (nodup_cons.mp hn).2 h hk
theorem me:∀(names:List (Str×NameKind)) (n:Nat) (aE:List (Str×Addr)) (p:Str×Addr),p∈aE->p∈cellsFrom n names aE:=by
 intro r n aE p h
 induction r generalizing n aE p h with
 |nil=>exact h
 |cons p0 r ih=>
  obtain⟨nm,k⟩:=p0;unfold cellsFrom
  split
  .exact ih _ _ p (Zo _ h)
  .exact ih _ _ p h
theorem iC:∀(names:List (Str×NameKind)) (n:Nat) (aE:List (Str×Addr)) (x:Str),(x,NameKind.cell)∈names-> ∃c,(x,c)∈cellsFrom n names aE:=by
 intro r n aE x h
 induction r generalizing n aE x with
 |nil=>cases h
 |cons p0 r ih=>
  obtain⟨nm,k⟩:=p0;unfold cellsFrom
  rcases mem_cons.mp h with q|h
  .cases q
   exact Er (YV (by decide)) (⟨n,me r _ _ _ Zn⟩)
  .split
   .exact ih _ _ x h
   .exact ih _ _ x h
theorem iy:∀ {names:List Str} {x:Str} {i k:Nat},(names.zipIdx k).lookup x=some i->k<=i/\names[i-k]? = some x:=by
 intro l x i k h
 induction l generalizing x i k with
 |nil=>exact ah h
 |cons a l ih=>
  rw[zipIdx_cons,Zv]at h;cases hx:x==a with
  |true=>
   rw[hx]at h;refine Er (aF h) ?_;simp only[beq_iff_eq]at hx;subst hx;exact⟨Zg _,by simp⟩
  |false=>
   rw[hx]at h;have q:=ih h;refine⟨by exact(L1 [k,i] .x .y (.p 1 .x) .y rfl q.1),?_⟩;obtain⟨m,rfl⟩:∃m,i=k+1+m:=⟨i-(k+1),by exact(Le [i,k,i-(k+(1:Nat))] (.e .x (.a (.p 1 .y) .z)) [Gq (.a .z (.p 1 .y)) .x] rfl (Za (n:=i) (m:=k+(1:Nat)) q.1))⟩
   refine Er (show k+1+m-k=m+1 from by exact(Le [k+(1:Nat)+m-k,m,k] (.e .x (.p 1 .y)) [Gp (.a .x .z) (.a (.p 1 .z) .y)] rfl (Za (n:=k+(1:Nat)+m) (m:=k) (L1 [k,m] .x (.a (.p 1 .x) .y) (.p 1 .x) (.a (.p 1 .x) .y) rfl q.1)))) (Er (List.getElem?_cons_succ) ?_);exact((show k+1+m-(k+1)=m from by exact(Le [k+(1:Nat)+m-(k+(1:Nat)),m,k] (.e .x .y) [Gp (.a .x (.p 1 .z)) (.a (.p 1 .z) .y)] rfl (Za (n:=k+(1:Nat)+m) (m:=k+(1:Nat)) q.1)))▸q.2)
noncomputable def lh (kindOf:Str->Option NameKind) (L:Addr) (cells:List (Str×Addr)) (names:List Str) (i:Nat):Option Loc:=match names[i]? with
 |none=>none
 |some x=>if kindOf x=some .local then some (.dict L x) else(cells.lookup x).map .cell
inductive z0 (k:Str->Option NameKind) (L:Addr) (cells:List (Str×Addr)) (names:List Str) (i:Nat):Loc->Prop
 |loc {x:Str}:names[i]? = some x->k x=some .local->z0 k L cells names i (.dict L x)
 |cell {x:Str} {c:Addr}:names[i]? = some x->cells.lookup x=some c->z0 k L cells names i (.cell c)
set_option tactic.hygienic true in
theorem cV {k:Str->Option NameKind} {L:Addr} {cells:List (Str×Addr)} {names:List Str} {l:Loc} (h:lh k L cells names i=some l):z0 k L cells names i l:=by
 unfold lh at h
 split at h
 .exact ah h
 .rename_i x hx
  split at h
  .rename_i hk;exact Er (aF h).symm (.loc hx hk)
  .obtain⟨c,h⟩:=Z9 h;exact Er h.2.symm (.cell hx h.1)
inductive FU (y:Lay) (env:Env) (i:Nat) (x:Str):Prop
 |loc:y.loc i=some (.dict env.locals x)->env.kindOf x=some .local->FU y env i x
 |cell (c:Addr):y.loc i=some (.cell c)->env.kindOf x=some .cell->env.cells.lookup x=some c->FU y env i x
noncomputable def jN (own:Addr->Option Nat) (pin:List Nat) (a:Addr):Option Nat:=match own a with
 |some k=>if k∈pin then some k else none
 |none=>none
set_option tactic.hygienic true in
theorem fh {own:Addr->Option Nat} {k:Nat} (h:jN own pin a=some k):own a=some k/\k∈pin:=by
 unfold jN at h
 split at h
 .rename_i j hj
  split at h
  .rename_i hp;exact Er (aF h).symm (⟨hj,hp⟩)
  .exact ah h
 .exact ah h
theorem jb {own:Addr->Option Nat} (h:jN own pin a≠none):own a≠none:=λe=>h (by unfold jN;exact Er e rfl)
theorem kL:∀ {args:List Slot} {k j:Nat} {sl:Slot},args[j]? = some sl->sl.lent=true->k+j∈gB k args
 |[],_,_,_,h,_=>by simp at h
 |a::r,k,0,sl,h,hl=>by
  simp at h;subst h;unfold gB;exact Er (YV hl) Zn
 |a::r,k,j+1,sl,h,hl=>by
  have:=kL (k:=k+1) (j:=j) (args:=r) h hl;rw[show k+1+j=k+(j+1) from by exact(Le [k,j] (.e (.a (.p 1 .x) .y) (.a .x (.p 1 .y))) [] rfl)]at this;unfold gB
  split
  .exact Zo _ this
  .exact this
set_option tactic.hygienic true in
theorem AR:∀ {args:List Slot} {vs:List Value} {fr:Fm} {k:Nat},(∀(j:Nat) (sl o:Slot) (v:Value),args[j]? = some sl->sl.lent=true->vs[j]? = some v->fr[j]? = some o->o≠ .no->eD h Z' (λa=>af a=some (k+j)) o v)->fS af Z' h k args vs (d5 args fr):=by
 intro r vs fr k H
 induction r generalizing vs fr k with
 |nil=>unfold fS;trivial
 |cons a r ih=>
  cases vs with
  |nil=>unfold fS;trivial
  |cons v vs=>
    have tl:∀(j:Nat) (sl o:Slot) (u:Value),r[j]? = some sl->sl.lent=true->vs[j]? = some u->fr.tail[j]? = some o->o≠ .no->eD h Z' (λa=>af a=some (k+1+j)) o u:=λj sl o u e1 hl e2 e3 n=>by
     have:=H (j+1) sl o u e1 hl e2 (by
      cases fr with
      |nil=>simp at e3
      |cons x xs=>simpa using e3) n
     rwa [show k+(j+1)=k+1+j from by exact(Le [k,j] (.e (.a .x (.p 1 .y)) (.a (.p 1 .x) .y)) [] rfl)]at this
    unfold fS d5
    split
    .rename_i hl
     refine⟨fr.headD .no,d5 r fr.tail,rfl,λn=>?_,(ih tl)⟩;cases fr with
     |nil=>exact absurd rfl n
     |cons x xs=>exact H 0 a x v rfl hl rfl rfl n
    .exact(ih tl)
theorem u0 {l:List Str} (hn:l.Nodup) (hi:i<l.length) (h:l[i]? = l[j]?):i=j:=by
 exact(List.getElem?_inj hi hn).mp h
theorem Cv {b:Addr} (h:a<b) (k:b<=a):False:=lt_irrefl _ (Ze h k)
set_option tactic.hygienic true in
theorem sI {P:Pr} (gd:Gd P.glob) (OT:∀(f:Nat) (fn:Fn) (d:DefRec),P.fns[f]? = some fn->tb.fn[f]? = some d-> ∃names,Mj d fn names):
  ∀n,qV n (cF P n):=by
 intro n
 induction n with
 |zero=>intro hd f args pg bW h;exact ah h
 |succ n IH=>
  intro hd f args pg bW h d di fa Lw A F own Z s vs ID K3 gL No G SA;have ih:=IH;unfold cF at h
  split at h
  .exact ah h
  .rename_i fn Ou
   split at h
   .rename_i bH
    obtain⟨names,ok⟩:=OT f fn d Ou di;obtain⟨a,o,pm,code,qE,hm,ho,LA,Nd⟩:=gd.fn f d di;rw[Lw]at hm;cases hm;have Io:vs.length=fn.np:=by rw[<- SA.1,bH]
    have yx:A.depth<recursionLimit:=by show A.depth<1000;exact(L1 [A.2,n] (.p 1 .x) (.c 1000) (.a .x (.p 1 .y)) (.c 999) rfl ID)
    let fd:=docDef d.name d.params d.body d.scope pm code qE
    have Ng:((names.take fn.np).zip vs).map (·.1)=names.take fn.np:=List.map_fst_zip (by rw[Zw,Io];exact(Nat.min_le_left fn.np names.length));refine codeAny_call_cells (fd:=fd) (body:=d.body) yx (G.base fa o ho) LA (gd.nl.keeps G.base) (Nd.keeps G.base) rfl (ok.bind vs Io pm code qE) rfl (λx hx=>?_) (λs₁ IC=>?_) ok.co ok.gen ok.kind
    .have N3:x.1∈names:=by
      have:x.1∈((names.take fn.np).zip vs).map (·.1):=mem_map.mpr ⟨x,hx,rfl⟩;rw[Ng]at this;exact mem_of_mem_take this
     rcases ok.kinds x.1 N3 with q|q
     .exact .inl q
     .refine .inr ⟨q,?_⟩
      obtain⟨c,hc⟩:=iC d.scope.names (s.heap.objs.size+1) [] x.1 (mem_of_lookup q);obtain⟨c',e,_⟩:=fN hc;exact isSome_iff_exists.mpr ⟨c',e⟩
    .generalize l9:callEnvC fd s.heap.objs.size fa=env at IC
     have eL:env.locals=s.heap.objs.size:=by rw[<- l9];rfl
     have eK:∀x,env.kindOf x=d.scope.names.lookup x:=λx=>by rw[<- l9];rfl
     have eC:env.cells=cellsFrom (s.heap.objs.size+1) d.scope.names []:=by rw[<- l9];rfl
     let y:Lay:=⟨lh env.kindOf env.locals env.cells names,env.locals,F⟩
     have up:∀b,(∃o,s.heap.get? b=some o)->b<env.locals:=λb ⟨o,e⟩=>by rw[eL];exact ZV e
     have lg:∀i l,y.loc i=some l->env.locals<=l.addr:=λi l hl=>by
      cases cV hl with
      |loc=>exact Zg _
      |cell _ hc=>exact Nat.le_of_lt (IC.above _ _ (mem_of_lookup hc))
     have hi:∀i l,y.loc i=some l->i<names.length:=λi l hl=>by
      cases cV hl with
      |loc hx=>exact(List.getElem?_eq_some_iff.mp hx).1
      |cell hx=>exact(List.getElem?_eq_some_iff.mp hx).1
     have H0:∀i x,names[i]? = some x->FU y env i x:=λi x hx=>by
      have N4:x∈names:=Zm hx
      rcases ok.kinds x N4 with q|q
      .refine .loc ?_ (by rw[eK];exact q)
       show lh _ _ _ _ _=_
       unfold lh;rw[hx];dsimp only;rw[YV (by rw[eK];exact q)]
      .obtain⟨c,hc⟩:=iC d.scope.names (s.heap.objs.size+1) [] x (mem_of_lookup q)
       obtain⟨c',e,_⟩:=fN hc;rw[<- eC]at e;refine .cell c' ?_ (by rw[eK];exact q) e;show lh _ _ _ _ _=_
       unfold lh;rw[hx];dsimp only;rw[YW (by rw[eK,q];intro z;cases z),e];rfl
     have en:aS (A.deeper env) (AG d names) env y:=by
      refine⟨?_,hi,by rw[<- l9];exact ok.kind,by rw[<- l9];rfl,by rw[<- l9];rfl,(by show env.frame=some env.locals;rw[eL,<- l9];rfl),(let ⟨l,hl,_⟩:=No;⟨env,l,Around.frames_deeper hl,rfl⟩),λx i hx=>?_,λx hx=>by rw[eK];exact hx,λx hx=>by rw[eK];exact hx⟩
      .obtain⟨l,hl,hk⟩:=No
       refine⟨_,Around.frames_deeper hl,λe he=>?_⟩
       rcases mem_cons.mp he with he|he
       .rw[he]
        exact⟨(by rw[<- l9];show d.scope.kind≠ .module;rw[ok.kind];intro q;cases q),_,(by show _=some env.locals;rw[eL,<- l9];rfl),.inr rfl⟩
       .obtain⟨h1,L,h2,h3⟩:=hk e he;exact⟨h1,L,h2,.inl h3⟩
      obtain⟨_,hx⟩:=iy hx;rw[Y9]at hx;cases H0 i x hx with
      |loc hl hk=>exact .inl ⟨hk,hl⟩
      |cell c hl hk hc=>exact .inr ⟨.inl hk,c,hc,hl⟩
     let pin:=gB 0 args
     let am:=jN own pin
     let bv:=(List.range names.length).filter λi=>decide (i∉pin)
     have LO:eJ (A.deeper env) (AG d names) env y ⟨P.glob,cF P n,pin,hd⟩ bv am:=by
      refine⟨en,λx i hx=>?_,λi hp l7=>mem_filter.mpr ⟨mem_range.mpr l7,by simpa using hp⟩,λa i q=>(fh q).2,?_,λx=>eK x⟩
      .obtain⟨_,hx⟩:=iy hx
       rw[eK]
       rcases ok.kinds x (Zm hx) with q|q<;>(rw[q];intro z;cases z)
      .unfold interactive;rw[<- l9];show(d.scope.kind == .module&&_)=false;rw[ok.kind];rfl
     have O5:Rn (A.deeper env) ⟨P.glob,cF P n,pin,hd⟩ n:=⟨gd,ih,by show A.depth+1+n<=999;exact(L1 [A.2,n] (.a (.p 1 .x) .y) (.c 999) (.a .x (.p 1 .y)) (.c 999) rfl ID),by show A.units+3+4*n<=4000;exact(L1 [A.5,n] (.a (.p 3 .x) (.m 4 .y)) (.c 4000) (.a .x (.m 4 (.p 1 .y))) (.c 4000) rfl K3),λq=>gL q⟩
     have kp:=IC.toInCall.keep;have nb:((names.take fn.np).zip vs |>.map (·.1)).Nodup:=by rw[Ng];exact ok.nd.sublist (take_sublist _ _)
     -- where the arguments lie
     have CU:∀(i:Nat) (v:Value),vs[i]? = some v-> ∃l,y.loc i=some l/\im s₁.heap l v:=λi v hv=>by
      have EE:i<fn.np:=by rw[<- Io];exact(List.getElem?_eq_some_iff.mp hv).1
      have J7:i<names.length:=Ze EE ok.np;have hz:((names.take fn.np).zip vs)[i]? = some (names[i],v):=by
       rw[List.getElem?_zip_eq_some];exact⟨by rw[List.getElem?_take];simp[EE,J7],hv⟩
      cases H0 i _ (ZG J7) with
      |loc hl hk=>exact⟨_,hl,_,IC.toInCall.ns,mV _ _ i _ v nb hz hk⟩
      |cell c hl hk hc=>
       have:=IC.cell _ c hc;rw[mW _ _ i _ v nb hz (by rw[hk];intro z;cases z)]at this;exact⟨_,hl,this⟩
     have ay:Inv y am Z s₁.heap (args++replicate (fn.nv-fn.np) .no):=by
      refine⟨⟨λi j l k hl hk ip hq=>?_,λi l hl f=>?_,λf=>?_,λi c hl q=>?_⟩,λb o e=>kp b o (G.base b o e),G.zb,λb z=>?_,λi l hl z=>?_,λi l hl=>?_,λz=>?_,?_,G.zF,λb q=>G.oF b (jb q),λb z=>?_,λb q=>?_,λb f=>?_,λi l hl=>?_,⟨_,IC.toInCall.ns⟩,λi sl e n=>?_⟩
      .have nd:∀ {x z},names[i]? = some x->names[j]? = some z->x≠z:=λhx hz q=>ip (u0 ok.nd (List.getElem?_eq_some_iff.mp hx).1 (by rw[hx,hz,q]))
       cases cV hl with
       |loc hx=>
        cases cV hk with
        |loc hz=>exact⟨_,_,_,rfl,rfl,nd hx hz⟩
        |cell _ qg=>exact(Cv (IC.above _ _ (mem_of_lookup qg)) (Nat.le_of_eq (Eq.symm hq))).elim
       |cell hx hc=>
        cases cV hk with
        |loc=>exact(Cv (IC.above _ _ (mem_of_lookup hc)) (Nat.le_of_eq hq)).elim
        |cell hz qg=>
         cases(hq:_=_);exact absurd (name_of_addr IC.apart (mem_of_lookup hc) (mem_of_lookup qg)) (nd hx hz)
      .obtain⟨o,e,_⟩:=G.flv _ f;exact Cv (up _ ⟨o,e⟩) (lg i l hl)
      .obtain⟨o,e,_⟩:=G.flv _ f;exact lt_irrefl _ (up _ ⟨o,e⟩)
      .cases cV hl with
       |cell _ hc=>exact Cv (IC.above _ _ (mem_of_lookup hc)) (Nat.le_of_eq q)
      .cases q:jN own pin b with
       |none=>exact q
       |some k=>exact absurd (fh q).1 (by rw[G.zo b z];intro z;exact ah z)
      .exact Cv (up _ (G.zlv _ z)) (lg i l hl)
      .cases q:am l.addr with
       |none=>rfl
       |some k=>exact(Cv (up _ (G.olv _ (by rw[(fh q).1];exact λz=>by cases z))) (lg i l hl)).elim
      .exact lt_irrefl _ (up _ (G.zlv _ z))
      .show am env.locals=none
       cases q:am env.locals with
       |none=>rfl
       |some k=>exact absurd (up _ (G.olv _ (by rw[(fh q).1];exact λz=>by cases z))) (lt_irrefl _)
      .obtain⟨o,e⟩:=G.zlv b z;exact⟨o,kp b o e⟩
      .obtain⟨o,e⟩:=G.olv b (jb q);exact⟨o,kp b o e⟩
      .obtain⟨o,e,nr⟩:=G.flv b f;exact⟨o,kp b o e,nr⟩
      .cases cV hl with
       |loc=>exact⟨_,IC.toInCall.ns⟩
       |cell _ hc=>exact⟨_,IC.cell _ _ hc⟩
      .rw[List.getElem?_append]at e
       split at e
       .rename_i l7
        have hv:i<vs.length:=by rw[<- SA.1];exact l7
        obtain⟨_,sv⟩:=SA.2 i sl vs[i] e (ZG hv);obtain⟨l,hl,hr⟩:=CU i _ (ZG hv);refine⟨l,_,hl,hr,?_⟩;cases sl with
        |no=>exact absurd rfl n
        |fz dd=>exact bS.mono (λb o ac=>kp b o) (λac z=>z) sv
        |own dd=>
         obtain⟨b,hb,ob,W⟩:=sv;refine⟨b,hb,?_,W.mono (λb o ac=>kp b o) (λac z=>z) λo=>kp b o⟩;show jN own pin b=some i
         have NU:own b=some i:=ob;have hp:i∈pin:=by have:=kL (k:=0) e rfl;rwa [Nat.zero_add]at this
         unfold jN;rw[NU];dsimp only;rw[YV hp]
        |exc _=>exact eD.mono (sl:=.exc _) (O:=λac=>False) (λb o ac=>kp b o) (λac z=>z) (λac f=>f.elim) (λac az f=>f.elim) sv
       .rw[List.getElem?_replicate]at e
        split at e
        .obtain rfl:=aF e;exact absurd rfl n
        .exact ah e
     -- Cc
     have Cc:∀(af:Addr->Option Nat) (Z':Addr->Prop) (b4:Fm) (s':Shared),Inv y af Z' s'.heap b4->Step y bv am Z s₁ af Z' s'->Gh F af Z' s'.heap/\C6 F own Z s af Z' s'/\fS af Z' s'.heap 0 args vs (d5 args b4):=λaf Z' b4 s' I' S'=>by
      have nwr:∀b o,s.heap.get? b=some o->own b=none-> ¬y.wr am b:=λb o e q w=>by
       rcases w with w|w|⟨i,l,hl,w⟩
       .exact jb w q
       .exact Cv (up b ⟨o,e⟩) (Nat.le_of_eq (Eq.symm w))
       .exact Cv (up b ⟨o,e⟩) (w▸lg i l hl)
      obtain⟨h1,O9,e1⟩:=IC.toInCall.same;refine⟨⟨I'.base,I'.zb,I'.zo,I'.zF,I'.oF,I'.zlv,I'.olv,I'.flv⟩,⟨?_,⟨λb o e nw nf=>?_,λb o e=>S'.ext.live b o (kp b o e),λb o f e=>S'.ext.fram b o f (kp b o e)⟩,S'.zm,λb z=>?_,λb i q=>?_⟩,AR λj sl o v ej hl ev ef n=>?_⟩
      .obtain⟨h2,Ks,e2⟩:=S'.sh;exact⟨h2,Ks,by rw[e2,e1]⟩
      .refine S'.ext.keep b o (kp b o e) (nwr b o e ?_) nf
       cases q:own b with
       |none=>rfl
       |some z=>exact absurd (by rw[q];exact λz=>by cases z) nw
      .rcases S'.zn b z with z|z|z
       .exact .inl z
       .exact .inr (.inl (jb z))
       .refine .inr (.inr ?_)
        cases q:s.heap.get? b with
        |none=>rfl
        |some o=>rw[kp b o q]at z;cases z
      .rcases S'.on b i q with q|q
       .exact .inl (fh q).1
       .refine .inr ?_
        cases z:s.heap.get? b with
        |none=>rfl
        |some o=>rw[kp b o z]at q;cases q
      .obtain⟨l,df,hr⟩:=CU j v ev
       have hp:j∈pin:=by have:=kL (k:=0) ej hl;rwa [Nat.zero_add]at this
       have Bo:=S'.bind j l v (λq=>by have:=(mem_filter.mp q).2;simp[hp]at this) df hr;obtain⟨l2,v2,Ll,Bn,sv⟩:=I'.at' j o ef n;rw[df]at Ll;obtain rfl:=aF Ll;obtain rfl:=Bo.det Bn;rw[Nat.zero_add];exact sv
     have fresh:∀b,s₁.heap.get? b=none->s.heap.get? b=none:=λb e0=>by
      cases z:s.heap.get? b with
      |none=>rfl
      |some o=>rw[kp b o z]at e0;cases e0
     have Cj:∀(af:Addr->Option Nat) b, ¬y.wr af b->af b=none:=λaf b nw=>by
      cases q:af b with
      |none=>rfl
      |some z=>exact absurd (.inl (by rw[q];exact λz=>by cases z)) nw
     -- the run
     have run:=λout h=>DD (Z₀:=Z) (s₀:=s₁) ok.body _ _ O5 LO am Z s₁ _ out h ay .refl
     split at h
     .exact ah h
     .rename_i e b4 hex
      cases h;refine YR (run _ hex) (λfl s' p=>?_) λe s' p=>?_
      .obtain⟨_,_,_,q,_⟩:=p;exact pQ q
      obtain⟨nm,a,af,Z',q,rfl,I',S',X⟩:=p;refine aM λG1 g1=>?_
      cases q;dsimp only at I';obtain⟨e0,dU,Bs,Bt⟩:=en.top;obtain⟨l,df,FF,IA⟩:=iL I' en.stk;rw[Bs]at df;obtain rfl:=aF df;refine g1 ?_;unfold leaving;refine YS (mF Bs Bt FF en.frame X (λb e=>⟨S'.old b e,I'.fresh e⟩) λiZ lv lN=>?_);have aC:Inv y af Z' iZ b4:=I'.lv lv (λb p=>p.2) IA;have aU:Step y bv am Z s₁ af Z' {s' with heap:=iZ}:=S'.lv I' lv (λb p=>p) IA;obtain⟨g,gs,os⟩:=Cc af Z' b4 {s' with heap:=iZ} aC aU;exact⟨af,Z',g,gs,os,.inr ⟨_,a,rfl,rfl,lN.is.mono λb ac az h=>⟨fresh b h.1,Cj af b h.2.1,h.2.2.1,h.2.2.2⟩⟩⟩
     .rename_i b4 hex
      cases h;refine YR (run _ hex) (λfl s' p=>?_) λac az x=>x.elim
      obtain⟨k',af,Z',q,I',S',r⟩:=p;obtain rfl:=lQ q;obtain⟨g,gs,os⟩:=Cc af Z' _ _ I' S';cases r;exact⟨af,Z',g,gs,os,.inl ⟨_,_,rfl,rfl,.none⟩⟩
     .rename_i rv b4 hex
      cases h;refine YR (run _ hex) (λfl s' p=>?_) λac az x=>x.elim
      obtain⟨k',af,Z',q,I',S',r⟩:=p;obtain rfl:=lQ q;obtain⟨g,gs,os⟩:=Cc af Z' _ _ I' S';obtain⟨v,rfl,r,dd,Oz⟩:=r;refine⟨af,Z',g,gs,os,.inl ⟨_,v,rfl,rfl,?_⟩⟩;cases rv with
      |fz d=>exact r
      |own d=>
       obtain⟨b,rfl,e0,nw,nf,nz,W⟩:=r;exact⟨b,rfl,fresh b e0,Cj af b nw,nf,nz,W⟩
      |pl p=>exact ah Oz
   .exact ah h
end Mv
namespace Mv
open PySem PyProof.Rows
noncomputable def Ih (sc:Sc) (x:Str) :Bool:=decide (sc.names.lookup x = some .globalImplicit) && !(x == ("__debug__" :Str))
noncomputable def Ig (sc:Sc) (x:Str) (i:Nat) :Bool:=decide (sc.vars.lookup x = some i) && !(x == ("__debug__" :Str))
theorem Bk {sc:Sc} {x:Str} (h:Ih sc x=true):sc.isG x:=by
 simp only[Ih,Z7,YZ,Z5]at h;exact h
theorem Bj {sc:Sc} {x:Str} (h:Ig sc x i=true):sc.isV x i:=by
 simp only[Ig,Z7,YZ,Z5]at h;exact h
noncomputable def Fb:Const->D->Bool
 |.none,.none=>true
 |.bool a,.bool b=>a==b
 |.int a,.int b=>a==b
 |.str a,.str b=>decide (a=b)&&PyData.strOk a&&decide (a.cps.size<=Sz)
 |_,_=>false
theorem vS {k:Const} {d:D} (h:Fb k d=true):eM k d:=by
 cases k<;>first|exact noConfusion h|(cases d<;>first|exact noConfusion h|exact .none|(refine Er (eq_of_beq h) ?_;first|exact .bool _|exact .int _)|skip)
 exact Er (YU (and_eq_true_iff.mp (and_eq_true_iff.mp h).1).1).symm (.str _ (and_eq_true_iff.mp (and_eq_true_iff.mp h).1).2 (YU (and_eq_true_iff.mp h).2))
noncomputable def zI (x:Ex) (bv:List Nat):Bool:=(MC x).all λi=>!bv.contains i
theorem v6 {x:Ex} {bv:List Nat} (h:zI x bv=true):Apart x bv:=λi hi hb=>by
 simp only[zI,ZN]at h;have:=h i hi;simp[hb]at this
noncomputable def zw (scope:Scope) (sc:Sc) (vs:List Str):Bool:=
 decide (scope.kind = .function)&&(scope.names.all λx=>decide (x.2 = .local->scope.names.lookup x.1=some .local))&&(scope.names.all λx=>decide (x.2≠ .cell))&&(vs.all λv=>decide (scope.names.lookup v=some .local))&&decide vs.Nodup &&
 (scope.names.all fun x=>decide (x.2 = .free→scope.names.lookup x.1 = some .free∧(x.1 == ("__classdict__" :Str)) = false∧(sc.vars.lookup x.1).isSome = true∧(sc.names.lookup x.1 = some .cell∨sc.names.lookup x.1 = some .free))) &&
 decide (((scope.names.filter λx=>x.2 == .free).map (·.1)).Nodup)
theorem vU {sc:Sc} {vs:List Str} (h:zw scope sc vs=true):gU scope sc vs:=by
 simp only[zw,Z7,YZ,ZN]at h;refine aM λG g=>?_
 obtain⟨⟨⟨⟨⟨⟨h1,h2⟩,h3⟩,h4⟩,OP⟩,h5⟩,h6⟩:=h;refine g ?_;exact⟨h1,h2,h3,h4,OP,λx hx hf=>let ⟨a,b,c,d⟩:=h5 x hx hf;⟨a,b,isSome_iff_exists.mp c,d⟩,h6⟩
structure Ck (p:Prop) where
 val:Bool
 ok:val=true->p
namespace Ck
variable {p q:Prop}
noncomputable def no:Ck p:=⟨false,λh=>nomatch h⟩
noncomputable def dec (p:Prop) [Decidable p]:Ck p:=⟨decide p,YU⟩
noncomputable def ofB {b:Bool} (h:b=true->p):Ck p:=⟨b,h⟩
theorem zJ {a b:Bool} (h:(a&&b)=true):a=true/\b=true:=by cases a<;>cases b<;>first|exact⟨rfl,rfl⟩|cases h
noncomputable def and (a:Ck p) (b:Ck q):Ck (p/\q):=⟨a.val&&b.val,λh=>⟨a.ok (zJ h).1,b.ok (zJ h).2⟩⟩
noncomputable def map (a:Ck p) (f:p->q):Ck q:=⟨a.val,λh=>f (a.ok h)⟩
end Ck
noncomputable def uc (sc:Sc) (x:Str) (i:Nat):Ck (sc.isV x i):=.ofB Bj
noncomputable def sF (sc:Sc) (x:Str):Ck (sc.isG x):=.ofB Bk
noncomputable def I4 (x:Ex) (bv:List Nat):Ck (Apart x bv):=.ofB v6
noncomputable def O1 (x:Ex) (aq:List Ex) (l:List Nat):Ck (∀j∈l,j∉aG x/\j∉bC aq):=.dec _
structure O7 (g:Expr) (t:fQ) where
 vs:List Str
 i:Nat
 ck:Ck (CG i g vs t)
noncomputable def sG (g:Expr) (t:fQ):O7 g t:=match t with
 |.one i=>(match g with
  |.Name v _=>⟨[v],i,⟨true,λac=>.one⟩⟩
  |_=>⟨[],0,.no⟩)
 |_=>⟨[],0,.no⟩
section
variable {sc:Sc}
theorem H6 {a b:Expr} {op:Operator} {o:lU} {x y:Ex} (h:op=xn o/\CE sc a x/\CE sc b y/\Apart x (aG y)):CE sc (.BinOp a op b pos) (.op2 o x y):=by
 refine Er h.1 ?_;exact .op2 h.2.1 h.2.2.1 h.2.2.2
theorem H9 {a b:Expr} {op:CmpOp} {o:Cm} {x y:Ex} (h:op=fg o/\CE sc a x/\CE sc b y/\Apart x (aG y)):CE sc (.Compare a [op] [b] pos) (.cmp o x y):=by
 refine Er h.1 ?_;exact .cmp h.2.1 h.2.2.1 h.2.2.2
theorem Ev {a b:Expr} {op JV:CmpOp} {o p:Cm} {x y z:Ex} (h:(op=fg o/\JV=fg p)/\CE sc a x/\CE sc b y/\CE sc e z):CE sc (.Compare a [op,JV] [b,e] pos) (.cmp2 o p x y z):=by
 obtain⟨⟨rfl,rfl⟩,a,b,c⟩:=h;exact .cmp2 a b c
noncomputable def IN (f:Nat) (v:Str):Bool:=match tb.fn[f]? with
 |some d=>decide (d.name=v)
 |none=>false
theorem BE {v:Str} (h:IN f v=true):∃d,tb.fn[f]? = some d/\d.name=v:=by
 unfold IN at h;cases q:tb.fn[f]? with
 |none=>have h:=q▸h;cases h
 |some d=>rw[q]at h;exact⟨d,rfl,YU h⟩
theorem bY {v:Str} {p:Pos} {args:List Expr} {xs:List Ex} (h:(∃d,tb.fn[f]? = some d/\d.name=v)/\sc.isG v/\wc sc args xs/\args.length<=29):CE sc (.Call (.Name v p) args [] pos) (.call f xs):=by
 obtain⟨⟨d,hd,rfl⟩,a,b,c⟩:=h;exact .call hd a b c
theorem Ia {b:Bi} {v:Str} {p:Pos} {a:Expr} {x:Ex} (h:b.one=true/\v=dB b/\sc.isG v/\CE sc a x):CE sc (.Call (.Name v p) [a] [] pos) (.bi b [x]):=by
 obtain rfl:=h.2.1;exact .bi1 h.1 h.2.2.1 h.2.2.2
theorem H8 {t:Ty} {v u:Str} {p p' pos:Pos} {a:Expr} {x:Ex} (h:v = ("isinstance" :Str)∧u = (cy t:Str)∧sc.isG v∧sc.isG u∧CE sc a x) :CE sc (.Call (.Name v p) [a,.Name u p'] [] pos) (.bi (.isi t) [x]):=by
 obtain rfl:=h.1;obtain rfl:=h.2.1;exact .isi h.2.2.1 h.2.2.2.1 h.2.2.2.2
theorem H7 {v x cn:Str} {p p1 p2 pos:Pos} {i:Nat} {yes no:List Str} (h:v = ("isinstance" :Str)∧sc.isG v∧sc.isV x i∧sc.isG cn∧tb.sub.lookup cn = some (yes,no)) :CE sc (.Call (.Name v p) [.Name x p1,.Name cn p2] [] pos) (.isx i yes no):=by
 obtain rfl:=h.1;exact .isx h.2.1 h.2.2.1 h.2.2.2.1 h.2.2.2.2
noncomputable def Hz:List Expr->Option (List Str)
 |[]=>some []
 |.Name x _::es=>(Hz es).map (x :: ·)
 |_=>none
noncomputable def I3 (sc:Sc):(es:List Expr)->(xs:List Str)->Ck (NS sc es xs)
 |[],[]=>⟨true,λac=>.nil⟩
 |.Name x _::es,x'::xs=>((Ck.dec (x=x')).and ((sF sc x).and (I3 sc es xs))).map λh=>h.1▸ .cons h.2.1 h.2.2
 |_,_=>.no
theorem Et {v x:Str} {cs:List Str} {es:List Expr} {p p1 p2 pos:Pos} {k i:Nat} {yes no:List Str} (h:v = ("isinstance" :Str)∧sc.isG v∧sc.isV x i∧NS sc es cs∧cs.length≤1000∧tb.sbt.lookup cs = some (yes,no)) :CE sc (.Call (.Name v p) [.Name x p1,.Tuple es k p2] [] pos) (.isx i yes no):=by
 obtain rfl:=h.1;exact .isxt h.2.1 h.2.2.1 h.2.2.2.1 h.2.2.2.2.1 h.2.2.2.2.2
theorem yf {v u:Str} {p p' pos jR:Pos} {a:Expr} (h:(v = ("len" :Str)∧u = ("set" :Str))∧sc.isG v∧sc.isG u) :BX sc (.Call (.Name v p) [.Call (.Name u p') [a] [] jR] [] pos) .lenset [a]:=by
 obtain⟨⟨rfl,rfl⟩,a,b⟩:=h;exact .lenset a b
theorem Eu {m:Str} {aN pos:Pos} {a k:Expr} (h:m = ("get" :Str)∧aR a = true∧aR k = true∧(aN.endLine == pos.line) = true) :BX sc (.Call (.Attribute a m aN) [k] [] pos) .dget [a,k]:=by
 refine Er h.1 ?_;exact .dget h.2.1 h.2.2.1 h.2.2.2
theorem Bf {m:Str} {aN pos:Pos} {a k:Expr} (h:m = ("count" :Str)∧aR a = true∧aR k = true∧(aN.endLine == pos.line) = true) :BX sc (.Call (.Attribute a m aN) [k] [] pos) .count [a,k]:=by
 refine Er h.1 ?_;exact .count h.2.1 h.2.2.1 h.2.2.2
theorem Bc {m:Str} {aN pos:Pos} {a k:Expr} (h:m = ("split" :Str)∧aR a = true∧aR k = true∧(aN.endLine == pos.line) = true) :BX sc (.Call (.Attribute a m aN) [k] [] pos) .split [a,k]:=by
 refine Er h.1 ?_;exact .split h.2.1 h.2.2.1 h.2.2.2
theorem Es {m:Str} {aN pos:Pos} {a k:Expr} (h:m = ("partition" :Str)∧aR a = true∧aR k = true∧(aN.endLine == pos.line) = true) :BX sc (.Call (.Attribute a m aN) [k] [] pos) .part [a,k]:=by
 refine Er h.1 ?_;exact .part h.2.1 h.2.2.1 h.2.2.2
theorem KQ {m:Str} {aN pos:Pos} {a:Expr} (h:m = ("upper" :Str)∧aR a = true∧(aN.endLine == pos.line) = true) :BX sc (.Call (.Attribute a m aN) [] [] pos) .up [a]:=by
 refine Er h.1 ?_;exact .up h.2.1 h.2.2
theorem H5 {m l x:Str} {i i':Int} {o:Operator} {aN pos lp xW zC p1 p2 p3:Pos} {k1 k2 k3:Nat} {a a':Expr} (h:(m = ("rfind" :Str)∧l = ("len" :Str)∧x = (⟨#[10]⟩ :Str)∧i = 0∧i' = 1∧o = .Sub∧aR a = true∧aR a' = true∧(aN.endLine == pos.line) = true)∧sc.isG l) :
  BX sc (.Call (.Attribute a m aN) [.Constant (.str x) k1 p1,.Constant (.int i) k2 p2,.BinOp (.Call (.Name l lp) [a'] [] xW) o (.Constant (.int i') k3 p3) zC] [] pos) .rfl [a,a']:=by
 obtain⟨⟨rfl,rfl,rfl,rfl,rfl,rfl,a,b,c⟩,g⟩:=h;exact .rfl g a b c
theorem H4 {m x v b1 b2:Str} {i j:Nat} {n n' i1:Int} {p1 p2 p3 p4 p5 p6 p7 p8 p9 ap pos:Pos} {k1 k2 k3 k4:Nat} {o:CmpOp} (h:(m = ("replace" :Str)∧b1 = (⟨#[32,61,32]⟩ :Str)∧b2 = (⟨#[32]⟩ :Str)∧i1 = 1∧n' = n∧o = .Eq∧(ap.endLine == pos.line) = true)∧sc.isV x i∧sc.isV v j) :
  CS sc (.If (.Compare (.Name v p1) [o] [.Constant (.int n') k1 p2] p3) [.Return (some (.Call (.Attribute (.Name x p4) m ap) [.Constant (.str b1) k2 p5,.Constant (.str b2) k3 p6,.Constant (.int i1) k4 p7] [] pos)) p8] [] p9) (.rpl i j n):=by
 obtain⟨⟨rfl,rfl,rfl,rfl,rfl,rfl,a⟩,b,c⟩:=h;exact .rpl b c a
theorem nX {m x:Str} {kk:Nat} {p aN pos:Pos} {k:Expr} (h:m = ("join" :Str)∧(aN.endLine == pos.line) = true) :BX sc (.Call (.Attribute (.Constant (.str x) kk p) m aN) [k] [] pos) .join [.Constant (.str x) kk p,k]:=by
 refine Er h.1 ?_;exact .join h.2
structure O6 (sc:Sc) (e:Expr) (b:Bi) where
 es:List Expr
 ck:Ck (BX sc e b es)
noncomputable def BY (sc:Sc) (e:Expr) (b:Bi):O6 sc e b:=match b with
 |.lenset=>(match e with
  | .Call (.Name v _) [.Call (.Name u _) [a] [] _] [] _=>⟨[a],((Ck.dec (v = ("len" :Str)∧u = ("set" :Str))).and ((sF sc v).and (sF sc u))).map yf⟩
  |_=>⟨[],.no⟩)
 |.dget=>(match e with
  | .Call (.Attribute a m aN) [k] [] pos=>⟨[a,k],(Ck.dec (m = ("get" :Str)∧aR a = true∧aR k = true∧(aN.endLine == pos.line) = true)).map Eu⟩
  |_=>⟨[],.no⟩)
 |.count=>(match e with
  | .Call (.Attribute a m aN) [k] [] pos=>⟨[a,k],(Ck.dec (m = ("count" :Str)∧aR a = true∧aR k = true∧(aN.endLine == pos.line) = true)).map Bf⟩
  |_=>⟨[],.no⟩)
 |.split=>(match e with
  | .Call (.Attribute a m aN) [k] [] pos=>⟨[a,k],(Ck.dec (m = ("split" :Str)∧aR a = true∧aR k = true∧(aN.endLine == pos.line) = true)).map Bc⟩
  |_=>⟨[],.no⟩)
 |.part=>(match e with
  | .Call (.Attribute a m aN) [k] [] pos=>⟨[a,k],(Ck.dec (m = ("partition" :Str)∧aR a = true∧aR k = true∧(aN.endLine == pos.line) = true)).map Es⟩
  |_=>⟨[],.no⟩)
 |.join=>(match e with
  | .Call (.Attribute (.Constant (.str x) kk p) m aN) [k] [] pos=>⟨[.Constant (.str x) kk p,k],(Ck.dec (m = ("join" :Str)∧(aN.endLine == pos.line) = true)).map nX⟩
  |_=>⟨[],.no⟩)
 |.up=>(match e with
  | .Call (.Attribute a m aN) [] [] pos=>⟨[a],(Ck.dec (m = ("upper" :Str)∧aR a = true∧(aN.endLine == pos.line) = true)).map KQ⟩
  |_=>⟨[],.no⟩)
 |.rfl=>(match e with
  | .Call (.Attribute a m aN) [.Constant (.str x) _ _,.Constant (.int i) _ _,.BinOp (.Call (.Name l _) [a'] [] _) o (.Constant (.int i') _ _) _] [] pos=>⟨[a,a'],((Ck.dec (m = ("rfind" :Str)∧l = ("len" :Str)∧x = (⟨#[10]⟩ :Str)∧i = 0∧i' = 1∧o = .Sub∧aR a = true∧aR a' = true∧(aN.endLine == pos.line) = true)).and (sF sc l)).map H5⟩
  |_=>⟨[],.no⟩)
 |.dict0=>(match e with
  |.Dict [] [] _=>⟨[],⟨true,λac=>.dict0⟩⟩
  |_=>⟨[],.no⟩)
 |_=>⟨[],.no⟩
noncomputable def Ck.or {p:Prop} (a b:Ck p):Ck p:=⟨a.val||b.val,λh=>(Bool.or_eq_true_iff.mp h).elim a.ok b.ok⟩
theorem Bd {v:Str} {p pos:Pos} {e:Expr} {x:Ex} (h:v = ("range" :Str)∧sc.isG v∧CE sc e x) :IT sc (.Call (.Name v p) [e] [] pos) .range [x]:=by
 obtain rfl:=h.1;exact .range h.2.1 h.2.2
end
mutual
noncomputable def cY:Nat->(sc:Sc)->(x:Ex)->(e:Expr)->Ck (CE sc e x)
 |0,_,_,_=>.no
 |n+1,sc,x,e=>match x with
  |.lit d=>(match e with
   |.Constant k _ _=>.ofB λh=>.lit (vS (k:=k) (d:=d) h)
   |_=>.no)
  |.var i=>(match e with
   |.Name v _=>(uc sc v i).map .var
   |_=>.no)
  |.pl (.var i)=>(match e with
   |.Name v _=>(uc sc v i).map .pl
   |_=>.no)
  |.gl k=>(match e with
   |.Name v _=>((sF sc v).and (.dec (tb.gl[k]? = some v))).map λh=>.gl h.1 h.2
   |_=>.no)
  |.tup xs=>(match e with
   |.Tuple es _ _=>((jd n sc xs es).and (.dec (xs.length<=1000))).map λh=>.tup h.1 h.2
   |_=>.no)
  |.list xs=>(match e with
   |.List es _=>((jd n sc xs es).and (.dec (xs.length<=1000))).map λh=>.list h.1 h.2
   |_=>.no)
  |.op2 o a b=>(match e with
   |.BinOp ea op eb _=>((Ck.dec (op=xn o)).and ((cY n sc a ea).and ((cY n sc b eb).and (I4 a (aG b))))).map H6
   |_=>.no)
  |.neg a=>(match e with
   |.UnaryOp .USub ea _=>(cY n sc a ea).map .neg
   |_=>.no)
  |.not a=>(match e with
   |.UnaryOp .Not ea _=>(cY n sc a ea).map .not
   |_=>.no)
  |.cmp o a b=>(match e with
   |.Compare ea [op] [eb] _=>((Ck.dec (op=fg o)).and ((cY n sc a ea).and ((cY n sc b eb).and (I4 a (aG b))))).map H9
   |_=>.no)
  |.cmp2 o p a b u=>(match e with
   |.Compare ea [op,JV] [eb,eu] _=>((Ck.dec (op=fg o/\JV=fg p)).and ((cY n sc a ea).and ((cY n sc b eb).and (cY n sc u eu)))).map Ev
   |_=>.no)
  |.and xs=>(match e with
   |.BoolOp .And es _=>(jd n sc xs es).map .and
   |_=>.no)
  |.or xs=>(match e with
   |.BoolOp .Or es _=>(jd n sc xs es).map .or
   |_=>.no)
  |.ite t a b=>(match e with
   |.IfExp et ea eb _=>((cY n sc t et).and ((cY n sc a ea).and (cY n sc b eb))).map λh=>.ite h.1 h.2.1 h.2.2
   |_=>.no)
  |.idx a i=>(match e with
   |.Subscript ea ei _=>((cY n sc a ea).and ((cY n sc i ei).and (I4 a (aG i)))).map λh=>.idx h.1 h.2.1 h.2.2
   |_=>.no)
  |.slc a l h=>(match e with
   |.Subscript ea (.Slice lo hi none _) _=>((cY n sc a ea).and ((I6 n sc l lo).and ((I6 n sc h hi).and (I4 a (aG l++aG h))))).map λh=>.slc h.1 h.2.1 h.2.2.1 h.2.2.2
   |_=>.no)
  |.call f xs=>(match e with
   |.Call (.Name v _) es [] _=>((Ck.ofB BE).and ((sF sc v).and ((jd n sc xs es).and (.dec (es.length<=29))))).map bY
   |_=>.no)
  |.bi b [a]=>(match e with
   |.Call (.Name v _) [ea] [] _=>((Ck.dec (b.one=true)).and ((Ck.dec (v=dB b)).and ((sF sc v).and (cY n sc a ea)))).map Ia
   |.Call (.Name v _) [ea,.Name u _] [] _=>(match b with
    | .isi t=>((Ck.dec (v = ("isinstance" :Str))).and ((Ck.dec (u = (cy t:Str))).and ((sF sc v).and ((sF sc u).and (cY n sc a ea))))).map H8
    |_=>.no)
   |_=>.no:Ck (CE sc e (.bi b [a]))).or (((BY sc e b).ck.and (jd n sc [a] (BY sc e b).es)).map λh=>.bx h.1 h.2)
  |.bi b xs=>((BY sc e b).ck.and (jd n sc xs (BY sc e b).es)).map λh=>.bx h.1 h.2
  |.comp cb t it bN aq=>(match e with
   |.ListComp ee [⟨g,iter,d9,0⟩] scope _=>((sG g t).ck.and ((I7 n sc it bN iter).and ((Ck.ofB (vU (scope:=scope) (sc:=sc) (vs:=(sG g t).vs))).and ((Ck.dec (sc.hi<=(sG g t).i)).and ((cY n (bG scope sc (sG g t).vs (sG g t).i) cb ee).and ((jd n (bG scope sc (sG g t).vs (sG g t).i) aq d9).and (O1 cb aq (aL t)))))))).map λ⟨h0,h1,h2,h3,h4,h5,h6⟩=>.comp h0 h1 h2 h3 h4 h5 h6
   |_=>.no)
  |.isx i yes no=>(match e with
   | .Call (.Name v _) [.Name x _,.Name cn _] [] _=>((Ck.dec (v = ("isinstance" :Str))).and ((sF sc v).and ((uc sc x i).and ((sF sc cn).and (.dec (tb.sub.lookup cn = some (yes,no))))))).map H7
   |.Call (.Name v _) [.Name x _,.Tuple es _ _] [] _=>(match Hz es with
    |none=>.no
    | some cs=>((Ck.dec (v = ("isinstance" :Str))).and ((sF sc v).and ((uc sc x i).and ((I3 sc es cs).and (.dec (cs.length≤1000∧tb.sbt.lookup cs = some (yes,no))))))).map Et)
   |_=>.no)
noncomputable def jd:Nat->(sc:Sc)->(xs:List Ex)->(es:List Expr)->Ck (wc sc es xs)
 |0,_,_,_=>.no
 |n+1,sc,xs,es=>match xs with
  |[]=>(match es with
   |[]=>⟨true,λac=>.nil⟩
   |_::_=>.no)
  |x::xs=>(match es with
   |[]=>.no
   |e::es=>((cY n sc x e).and ((jd n sc xs es).and (I4 x (bC xs)))).map λh=>.cons h.1 h.2.1 h.2.2)
noncomputable def I6:Nat->(sc:Sc)->(x:Ex)->(o:Option Expr)->Ck (Mo sc o x)
 |0,_,_,_=>.no
 |n+1,sc,x,o=>match o with
  |some e=>(cY n sc x e).map .osome
  |none=>(match x with
   |.lit .none=>⟨true,λac=>.onone⟩
   |_=>.no)
noncomputable def I7:Nat->(sc:Sc)->(it:iU)->(bN:List Ex)->(e:Expr)->Ck (IT sc e it bN)
 |0,_,_,_,_=>.no
 |n+1,sc,it,bN,e=>match bN with
  |[x]=>(match it with
   |.seq=>(cY n sc x e).map .seq
   |.range=>(match e with
    | .Call (.Name v _) [e] [] _=>((Ck.dec (v = ("range" :Str))).and ((sF sc v).and (cY n sc x e))).map Bd
    |_=>.no))
  |_=>.no
end
noncomputable def Fi (sc:Sc):(es:List Expr)->(is:List Nat)->Ck (TGs sc es is)
 |[],[]=>⟨true,λac=>.nil⟩
 |.Name x _::es,i::is=>((uc sc x i).and (Fi sc es is)).map λh=>.cons h.1 h.2
 |_,_=>.no
noncomputable def O0 (sc:Sc) (g:Expr) (t:fQ):Ck (TG sc g t):=match t with
 |.one i=>(match g with
  |.Name x _=>(uc sc x i).map .one
  |_=>.no)
 |.tup is=>(match g with
  |.Tuple es _ _=>(Fi sc es is).map .tup
  |_=>.no)
theorem Be {sc:Sc} {k' HW:Str} {np lD:Pos} (h:(k'=k/\k'∈tb.cl)/\sc.isG k'):CS sc (.Raise (some (.Call (.Name k' np) [.Constant (.str HW) kk ap] [] lD)) none pos) (.raise k):=by
 obtain⟨⟨rfl,a⟩,b⟩:=h;exact .raise b a
theorem Aj {cn:Str} (h:((tb.sub.lookup cn).map (·.1)==some yes)=true):∃no,tb.sub.lookup cn=some (yes,no):=by
 cases q:tb.sub.lookup cn with
 |none=>have h:=q▸h;cases h
 |some p=>rw[q]at h;simp at h;subst h;exact⟨p.2,rfl⟩
theorem Ib {sc:Sc} {x m:Str} {p aN pos p':Pos} {v:Expr} {i:Nat} {e:Ex} (h:(m = ("append" :Str)∧aN.endLine = pos.line)∧sc.isV x i∧CE sc v e) :CS sc (.Expr (.Call (.Attribute (.Name x p) m aN) [v] [] pos) p') (.app (.var i) e):=by
 obtain⟨⟨rfl,a⟩,b,c⟩:=h;exact .app b c (beq_iff_eq.mpr a)
noncomputable def LQ (sc:Sc) (x x':Str) (p p':Pos) (a b:Expr):Ck (zR sc x x' p p' a b):=by
 unfold zR;exact .dec _
mutual
noncomputable def LS (sc:Sc):Nat->(z:St)->(s:Stmt)->Ck (CS sc s z)
 |0,_,_=>.no
 |n+1,z,s=>match z with
  |.asg (.one i) e=>(match s with
   |.Assign [.Name x _] value _=>((uc sc x i).and (cY n sc e value)).map λh=>.asg h.1 h.2
   |_=>.no)
  |.asg (.tup is) e=>(match s with
   |.Assign [.Tuple es k0 tp] value pos0=>(((Fi sc es is).and ((cY n sc e value).and (.dec (iJ value=true/\pB value=true)))).map λh=>.asgT h.1 h.2.1 h.2.2.1 h.2.2.2:Ck (CS sc (.Assign [.Tuple es k0 tp] value pos0) (.asg (.tup is) e))).or (match is,e,es,value with
    |[i,j],.tup [ea,eb],[.Name x p,.Name x' p'],.Tuple [a,b] kk vp=>((uc sc x i).and ((uc sc x' j).and ((Ck.dec (i≠j)).and ((LQ sc x x' p p' a b).and (cY n sc (.tup [ea,eb]) (.Tuple [a,b] kk vp)))))).map λh=>.asg2 h.1 h.2.1 h.2.2.1 h.2.2.2.1 h.2.2.2.2
    |_,_,_,_=>.no)
   |_=>.no)
  |.no=>⟨true,λac=>.no⟩
  |.setI (.var i) k e=>(match s with
   |.Assign [.Subscript (.Name x _) idx _] value _=>((uc sc x i).and ((cY n sc e value).and (cY n sc k idx))).map λh=>.setI h.1 h.2.1 h.2.2
   |_=>.no)
  |.app (.var i) e=>(match s with
   | .Expr (.Call (.Attribute (.Name x _) m aN) [v] [] pos) _=>((Ck.dec (m = ("append" :Str)∧aN.endLine = pos.line)).and ((uc sc x i).and (cY n sc e v))).map Ib
   |_=>.no)
  |.iff t a b=>(match s with
   |.If et sa sb _=>((cY n sc t et).and ((jc sc n a sa).and (jc sc n b sb))).map λh=>.iff h.1 h.2.1 h.2.2
   |_=>.no)
  |.ret e=>(match s with
   |.Return (some v) _=>(cY n sc e v).map .ret
   |.Return none _=>(match e with
    |.lit .none=>⟨true,λac=>.retN⟩
    |_=>.no)
   |_=>.no)
  |.for_ t it bN body cw=>(match s with
   |.For g iter sb [] _=>((O0 sc g t).and ((I7 n sc it bN iter).and (jc sc n body sb))).map λh=>.for1 h.1 h.2.1 h.2.2
   |_=>.no)
  |.whl t body cw=>(match s with
   |.While et sb [] _=>((cY n sc t et).and (jc sc n body sb)).map λh=>.whl h.1 h.2
   |_=>.no)
  |.rpl i j n'=>(match s with
   | .If (.Compare (.Name v _) [o] [.Constant (.int n'') _ _] _) [.Return (some (.Call (.Attribute (.Name x _) m ap) [.Constant (.str b1) _ _,.Constant (.str b2) _ _,.Constant (.int i1) _ _] [] pos)) _] [] _=>((Ck.dec (m = ("replace" :Str)∧b1 = (⟨#[32,61,32]⟩ :Str)∧b2 = (⟨#[32]⟩ :Str)∧i1 = 1∧n'' = n'∧o = .Eq∧(ap.endLine == pos.line) = true)).and ((uc sc x i).and (uc sc v j))).map H4
   |_=>.no)
  |.raise k=>(match s with
   |.Raise (some (.Call (.Name k' _) [.Constant (.str _) _ _] [] _)) none _=>((Ck.dec (k'=k/\k'∈tb.cl)).and (sF sc k')).map Be
   |_=>.no)
  |.try_ xb yes i xh=>(match s with
   |.Try body [.ExceptHandler (some (.Name cn _)) (some x) (h0::hs) _] [] [] _=>((uc sc x i).and ((Ck.dec (sc.names.lookup x=some .local)).and ((sF sc cn).and ((Ck.ofB (Aj (cn:=cn) (yes:=yes))).and ((jc sc n xb body).and (jc sc n xh (h0::hs))))))).map λ⟨h1,h2,h3,⟨_,h4⟩,h5,h6⟩=>.try1 h1 h2 h3 h4 h5 h6
   |_=>.no)
noncomputable def jc (sc:Sc):Nat->(zs:List St)->(ss:List Stmt)->Ck (Mn sc ss zs)
 |0,_,_=>.no
 |n+1,zs,ss=>match zs with
  |[]=>(match ss with
   |[]=>⟨true,λac=>.nil⟩
   |_::_=>.no)
  |z::zs=>(match ss with
   |[]=>.no
   |s::ss=>((LS sc n z s).and (jc sc n zs ss)).map λh=>.cons h.1 h.2)
end
noncomputable def bL:List DefRec->List Fn->List (List Str)->List ((Nat->Value)->Value->Value->Value->Sem (List (Str×Value)))
 |d::ds,fn::fns,_::nss=>(λg pm code qE=>bindArgs (docDef d.name d.params d.body d.scope pm code qE) ⟨(List.range fn.np).map g,[]⟩)::bL ds fns nss
 |_,_,_=>[]
noncomputable def bR:List DefRec->List Fn->List (List Str)->List ((Nat->Value)->Value->Value->Value->Sem (List (Str×Value)))
 |_::ds,fn::fns,ns::nss=>(λg ac az cL=>pure ((ns.take fn.np).zip ((List.range fn.np).map g)))::bR ds fns nss
 |_,_,_=>[]
theorem map_range (vs:List Value):(List.range vs.length).map (λi=>(vs[i]?).getD .none)=vs:=by
 induction vs with
 |nil=>rfl
 |cons v vs ih=>exact Er List.range_succ_eq_map (Er Zt (Er Zs (Y2 (v :: ·) ih)))
end Mv
namespace Mv
open PySem PySem.W PyProof.Rows
noncomputable def ET (d:DefRec) (fn:Fn) (names:List Str):Bool:=
 decide names.Nodup&&decide (fn.np<=names.length)&&(names.all λx=>decide (d.scope.names.lookup x=some .local\/d.scope.names.lookup x=some .cell))&&(jc (AG d names) 300 fn.body d.body).val &&
 !d.scope.isCoroutine && !d.scope.isGenerator&&decide (d.scope.kind = .function)&&(d.scope.names.all λx=>decide (x.2≠ .free))
theorem BB {d:DefRec} {fn:Fn} {names:List Str} (h:ET d fn names=true) (hb:∀g pm code qE,bindArgs (docDef d.name d.params d.body d.scope pm code qE) ⟨(List.range fn.np).map g,[]⟩=pure ((names.take fn.np).zip ((List.range fn.np).map g))):Mj d fn names:=by
 obtain⟨h,h8⟩:=and_eq_true_iff.mp h;obtain⟨h,h7⟩:=and_eq_true_iff.mp h;obtain⟨h,h6⟩:=and_eq_true_iff.mp h;obtain⟨h,h5⟩:=and_eq_true_iff.mp h;obtain⟨h,h4⟩:=and_eq_true_iff.mp h;obtain⟨h,h3⟩:=and_eq_true_iff.mp h;obtain⟨h1,h2⟩:=and_eq_true_iff.mp h;refine⟨YU h1,YU h2,λx hx=>YU (all_eq_true.mp h3 x hx),λvs hv pm code qE=>?_,(jc _ 300 _ _).ok h4,(Z5 _▸h5:_=false),(Z5 _▸h6:_=false),YU h7,λx hx=>YU (all_eq_true.mp h8 x hx)⟩;have q:=hb (λi=>(vs[i]?).getD .none) pm code qE;rw[<- hv,map_range]at q;exact hv▸q
noncomputable def yO:List DefRec->List Fn->List (List Str)->Bool
 |d::ds,fn::fns,ns::nss=>ET d fn ns&&yO ds fns nss
 |_,[],_=>true
 |_,_,_=>false
theorem BC:∀ {ds:List DefRec} {fns:List Fn} {nss:List (List Str)},yO ds fns nss=true->bL ds fns nss=bR ds fns nss-> ∀(f:Nat) (fn:Fn) (d:DefRec),fns[f]? = some fn->ds[f]? = some d-> ∃names,Mj d fn names:=by
 intro ds fns
 induction fns generalizing ds with
 |nil=>intro nss _ _ f fn d h1;exact ah h1
 |cons fn fns ih=>
  intro nss h e f OU d h1 h2;cases ds with
  |nil=>exact ah h2
  |cons d' ds=>
   cases nss with
   |nil=>exact noConfusion h
   |cons ns nss=>
    have h:=and_eq_true_iff.mp (show(ET d' fn ns&&yO ds fns nss)=true from h);have e:=List.cons.inj e;cases f with
    |zero=>
     refine Er (aF h1).symm (Er (aF h2).symm ?_);exact⟨ns,BB h.1 λg pm code qE=>congrFun (congrFun (congrFun (congrFun e.1 g) pm) code) qE⟩
    |succ f=>exact ih h.2 e.2 f OU d h1 h2
noncomputable def tS (p:Program) (loose:List Str):Bool:=
 ig.all λx=>!startupNames.contains x && !loose.contains x && !((recsOf p).map (·.name)).contains x && !((litsOf p).map (·.1)).contains x && !((clssOf p loose).map (·.name)).contains x
variable [hp:Hp]
section
variable {loose:List Str} {pJ:ExcName->Option Value}
theorem Gd.of_top {glob:List D} (T:Top Hq.view loose pJ mg mb B) (hf:tS Hq.view loose=true)
  (z7:∀k∈Lq.cls, ∃C Bb newId gJ bm,OwnClsQ k C bm newId mg B/\ExcBaseFacts Bb newId gJ bm)
  (EK:∀c yes no,Lq.sb.lookup c=some (yes,no)-> ∃V,(mg c=some V\/(mg c=none/\mb c=some V))/\ ∀k C,mg k=some (.ref C)->(k∈yes->fq B C V true)/\(k∈no->fq B C V false))
  (yH:∀cs yes no,Lq.sbt.lookup cs=some (yes,no)-> ∃Vs,gj mg mb cs Vs/\ ∀k C,mg k=some (.ref C)->(k∈yes->dO B C Vs true)/\(k∈no->dO B C Vs false))
  (oG:∀(k:Nat) (x:Str) (d:D),Lq.gls[k]? = some x->glob[k]? = some d-> ∃v,mg x=some v/\ ∀(h':Heap) (Z:Addr->Prop),(∀a o,B.get? a=some o->h'.get? a=some o)->(∀a o,B.get? a=some o->Z a)->bS h' Z v d):Gd glob where
 g:=T.g
 b:=T.b
 nl:=T.nolimit
 bt:=T.builtins
 fn:=λf d hd=>T.fn d (Zm hd)
 gl:=oG
 bi:=λx hx=>by
  simp only[tS,ZN,Z7,Z5,List.contains_eq_mem,decide_eq_false_iff_not]at hf;refine aM λG g1=>?_
  obtain⟨⟨⟨⟨h1,h2⟩,h3⟩,h4⟩,h5⟩:=hf x hx;refine g1 ?_;exact T.free x h1 h2 h3 h4 h5
 cl:=z7
 ask:=EK
 askT:=yH
theorem const_int {x:Str} {i:Int} (T:Top Hq.view loose pJ mg mb B) (hv:valOf Hq.view x=some (.int i)):∃v,mg x=some v/\ ∀(h':Heap) (Z:Addr->Prop),(∀a o,B.get? a=some o->h'.get? a=some o)->(∀a o,B.get? a=some o->Z a)->bS h' Z v (.int i):=by
 refine aQ (T.const x _ hv) λv q=>?_
 refine⟨v,q.1,λh' Z ac az=>?_⟩;cases q.2 B with
 |int i t=>exact .int i t
theorem u8 {lv:List (Str×WData)} {x:Str} {i:Int} (V:LooseAre lv mg B) (hm:(x,WData.int i)∈lv):∃v,mg x=some v/\ ∀(h':Heap) (Z:Addr->Prop),(∀a o,B.get? a=some o->h'.get? a=some o)->(∀a o,B.get? a=some o->Z a)->bS h' Z v (.int i):=by
 obtain⟨v,hg,hr⟩:=V.val _ hm;refine⟨v,hg,λh' Z ac az=>?_⟩;cases hr with
 |int i t=>exact .int i t
end
theorem pU {P:Params} :∀ {vs:List Value} {xs:List Int},WellAll P h vs (ofPys (xs.map .int))->ao h Z vs (xs.map .int):=by
 intro vs xs
 induction xs generalizing vs with
 |nil=>exact @λW=>by cases W;exact .nil
 |cons x xs ih=>
  intro W;cases W with
  |cons a b=>
   cases a with
   |int _ t=>exact .cons (.int _ t) (ih b)
theorem A9 {loose:List Str} {pJ HY:ExcName->Option Value} {s₁:Shared} {P:Pr} {nss:List (List Str)} {d:DefRec} {fa l:Addr} {xs:List Int} {bW:List Slot} {c:ClaimW} {cl:Str->Option Addr} {args:List WData}
  (hh:B=s₁.heap) (T:Top Hq.view loose pJ mg mb B) (Bw:yO (recsOf Hq.view) P.fns nss=true) (OD:bL (recsOf Hq.view) P.fns nss=bR (recsOf Hq.view) P.fns nss) (qd:tS Hq.view loose=true)
  (z7:∀k∈Lq.cls, ∃C Bb newId gJ bm,OwnClsQ k C bm newId mg B/\ExcBaseFacts Bb newId gJ bm)
  (EK:∀c yes no,Lq.sb.lookup c=some (yes,no)-> ∃V,(mg c=some V\/(mg c=none/\mb c=some V))/\ ∀k C,mg k=some (.ref C)->(k∈yes->fq B C V true)/\(k∈no->fq B C V false))
  (yH:∀cs yes no,Lq.sbt.lookup cs=some (yes,no)-> ∃Vs,gj mg mb cs Vs/\ ∀k C,mg k=some (.ref C)->(k∈yes->dO B C Vs true)/\(k∈no->dO B C Vs false))
  (oG:∀(k:Nat) (x:Str) (d:D),Lq.gls[k]? = some x->P.glob[k]? = some d-> ∃v,mg x=some v/\ ∀(h':Heap) (Z:Addr->Prop),(∀a o,B.get? a=some o->h'.get? a=some o)->(∀a o,B.get? a=some o->Z a)->bS h' Z v d)
  (hd:(recsOf Hq.view)[f]? = some d) (Lw:mg d.name=some (.ref fa)) (W:Well w.params s₁.heap (.ref l) (ofPy (.list (xs.map .int)))) (bH:xs.length<=Sz) (hn:n<=600) (Ls:s₁.gens = #[])
  (hr:∀cls,c.raises args cls=false) (hp:c.post args (.bool true) args=true)
  (h:cF P n false f [.fz (.list (xs.map .int))]=some (.ok (.fz (.bool true)),bW)):
  codeAny (model prog w) callerA (.call (.ref fa) ⟨[.ref l],[]⟩) (GoodWG c cl HY args s₁) s₁:=by
 have hb:∀a o,B.get? a=some o->s₁.heap.get? a=some o:=λa o e=>hh▸e
 have OC:claimMargin=300:=by decide
 refine codeAny_mono ((sI (Gd.of_top T qd z7 EK yH oG) (λf fn d h1 h2=>BC Bw OD f fn d h1 h2) n) false f _ _ _ h d hd fa Lw callerA (λac=>False) (λac=>none) (λa=> ∃o,s₁.heap.get? a=some o) s₁ [.ref l] ?_ ?_ (λac=>rfl) ⟨[],rfl,λac h=>by cases h⟩ ⟨hb,λa o e=>⟨o,hb a o e⟩,λac az=>rfl,λac az f=>f,λac az f=>f,λac z=>z,λac z=>absurd rfl z,λac f=>f.elim⟩ ⟨rfl,λk sl v e1 e2=>?_⟩) λr s' p=>?_
 .exact(Ln [claimMargin,n] (.w (.a (.a (.c 1) .x) .y) (.c 999)) [Gl .y (.c 600),Ge .x (.c 300)] rfl hn OC)
 .exact(Ln [n] (.w (.a (.c 4) (.m 4 .x)) (.c 4000)) [(4,.w .x (.c 600))] rfl hn)
 .cases k with
  |zero=>
   simp at e1 e2;subst e1;subst e2;refine⟨(λq=>by cases q),?_⟩;refine aM λG1 g=>?_
   cases W with
   |@list _ vs ws n9 Bw=>
    refine g ?_;exact .list ⟨_,n9⟩ n9 (by refine Er ((pU (Z:=λac=>True) Bw).length) ?_;rw[ZB];exact bH) (pU Bw)
  |succ k=>simp at e1
 .obtain⟨af,Z',G,S,_,⟨rv,v,q,rfl,R⟩|⟨nm,a,q,_⟩⟩:=p
  rotate_left
  .exact LP q
  obtain rfl:=lQ q;refine fW S.sh λh' tk Q=>?_;subst Q
  refine GoodW.toG ⟨.inl ⟨v,.bool true,[],rfl,hr,?_,hp,λac=>⟨List.nodup_nil,λa ha=>by cases ha⟩⟩,λa o e=>G.base a o (hh▸e),rfl,Ls⟩;cases R;exact .bool true
end Mv
namespace Mv
open PySem PySem.W PyProof.Rows
section
variable {prog:Program} {w:World} {A:Around} {E:Value->Shared->Prop} {s:Shared} {K:Frag} {x D:Addr} {ox:Obj}
theorem vH {Q:Option Value→Shared→Prop} (X:K.In s.heap) (I:InstAt s.heap x ox D none) (EI:findIn K (.ref D) "__getattribute__" = some (some (.builtin "BaseException.__getattribute__"))) (EH:findIn K (.ref D) "__getattr__" = some none)
  (hf:findObj K D none "__class__" = some (.bind (.builtin "getset_descriptor.__get__") (.builtin "object.__class__"))) (ED:mroIn K D (.type "BaseException") = some true) (EC:mroIn K D (.type "object") = some true)
  (h:Q (some (.ref D)) {s with toks:=s.toks + 1}) :wpAny (model prog w) A (getAttr? (.ref x) "__class__") Q E s:=by
 obtain⟨hh,g,d,t,os⟩:=s;have L0:=I.type (M:=model prog w);have L2:=looks_findIn (M:=model prog w) X EH;have L3:=looks_find (M:=model prog w) X I hf;have L4:=looks_mroIn (M:=model prog w) X ED;unfold getAttr? getAttrBy? getAttrBy;refine YS (wpAny_mkText (YS (wpAny_attempt (wpAny_holding (YS (L0.at (YS ((looks_findIn (M:=model prog w) X EI).at ?_))))))));dsimp only;refine Er (YW (by simp)) ?_;have f3:=(PySem.F.attrBase_ValueError).ga.bind (.ref x)
 repeat (any_goals (first|assumption|with_reducible refine Looks.at (by assumption) ?_|wp_step))
 refine codeAny_call_builtin (PySem.F.attrBase_ValueError).ga.plain PySem.F.entry_bexc_ga ?_;have hk:builtinKind "BaseException.__getattribute__" = some .slot:=by decide +kernel
 have EA:splitId "BaseException.__getattribute__" = some ("BaseException","__getattribute__"):=by decide +kernel
 have ha:=PySem.F.args_bexc_ga (.ref x) (.str "__class__" t);simp only [checkBuiltinCall,hk,EA,cons_append,Zk];refine YS ?_;unfold isInstance
 repeat (any_goals (first|assumption|with_reducible refine Looks.at (by assumption) ?_|wp_step))
 refine class_get (s:=⟨hh,g,d,t+1,os⟩) (od:=none) X I EC ?_
 repeat (any_goals (first|assumption|wp_step))
theorem zy {K:Frag} {D:Addr} (h:(clsIn K D).isSome=true):∃c d cd sl,K.lookup D=some ⟨c,d,.cls cd,sl⟩:=by
 delta clsIn at h
 cases e:K.lookup D with
 |none=>rw[e]at h;exact noConfusion h
 |some o=>
  obtain⟨c,d,dat,sl⟩:=o;rw[e]at h;cases dat<;>first|exact⟨_,_,_,_,rfl⟩|exact noConfusion h
theorem pR (EI:findIn K (.ref D) "__getattribute__" = some (some (.builtin "BaseException.__getattribute__"))) (EH:findIn K (.ref D) "__getattr__" = some none)
  (hf:findObj K D none "__class__" = some (.bind (.builtin "getset_descriptor.__get__") (.builtin "object.__class__"))) (ED:mroIn K D (.type "BaseException") = some true) (EC:mroIn K D (.type "object") = some true) (z7:(clsIn K D).isSome = true) :
  KitX K (.ref x) (.ref D) (λh=> ∃ox,InstAt h x ox D none) where
 ty:=λ_ _ _ ⟨_,I⟩=>I.type
 it:=λac az X cL=>by
  obtain⟨c,d,cd,sl,ho⟩:=zy z7;intro A' Q' E' s' k q;unfold isType loadHead;exact YS (wpAny_loadPart (k _ _ (X _ _ ho)) (YO q))
 ne:=λh tp dd Pc n sl X Oa=>by
  obtain⟨c,d,cd,sl,ho⟩:=zy z7;refine eq_false_iff.mpr λq=>?_
  have e:=Value.ref.inj (beq_iff_eq.mp q);subst e;have z:=(X _ _ ho).symm.trans Oa;cases z
 ca:=λX ⟨_,I⟩ k=>vH X I EI EH hf ED EC k
end
theorem zE {K:Frag} {B:Heap} {D:Addr} {V:Value} {b:Bool} (X:K.In B) (EI:findIn K (.ref D) "__getattribute__" = some (some (.builtin "BaseException.__getattribute__"))) (EH:findIn K (.ref D) "__getattr__" = some none)
  (hf:findObj K D none "__class__" = some (.bind (.builtin "getset_descriptor.__get__") (.builtin "object.__class__"))) (ED:mroIn K D (.type "BaseException") = some true) (EC:mroIn K D (.type "object") = some true) (z7:(clsIn K D).isSome = true)
  (h1:kitOne K (.ref D) V=some b) (h2:exmOne K (.ref D) V=some b):fq B D V b:=by
 intro prog w A E s a o hB ha hc;have I:InstAt s.heap a o D none:=⟨ha,hc.1,by obtain⟨_,_,vs,hd⟩:=hc;obtain⟨c,o⟩:=o;cases hd;rfl,by refine Er hc.2.1 ?_;trivial⟩
 exact⟨λQ q=>exm_one (X.keeps hB) I.type h2 A Q E s (λac az e=>e) q,λQ q=>kia_one (pR EI EH hf ED EC z7) (X.keeps hB) ⟨o,I⟩ h1 (by intro z;cases z) q⟩
theorem v5 {K:Frag} {B:Heap} {D:Addr} {Vs:List Value} {b:Bool} (X:K.In B) (EI:findIn K (.ref D) "__getattribute__" = some (some (.builtin "BaseException.__getattribute__"))) (EH:findIn K (.ref D) "__getattr__" = some none)
  (hf:findObj K D none "__class__" = some (.bind (.builtin "getset_descriptor.__get__") (.builtin "object.__class__"))) (ED:mroIn K D (.type "BaseException") = some true) (EC:mroIn K D (.type "object") = some true) (z7:(clsIn K D).isSome = true)
  (h1:kitAny K (.ref D) Vs=some b):dO B D Vs b:=by
 intro prog w A E s a tp o hB ha hc ht Q q;have I:InstAt s.heap a o D none:=⟨ha,hc.1,by obtain⟨_,_,vs,hd⟩:=hc;obtain⟨c,o⟩:=o;cases hd;rfl,by refine Er hc.2.1 ?_;trivial⟩
 exact kia_tup (pR EI EH hf ED EC z7) (X.keeps hB) ⟨o,I⟩ ht h1 (by intro z;cases z) q
noncomputable def yk (r:Option Builtin.ObjectAttr.Found):Bool:=match r with
 | some (.bind g a)=>decide (g = .builtin "getset_descriptor.__get__") && decide (a = .builtin "object.__class__")
 |_=>false
theorem mG {r:Option Builtin.ObjectAttr.Found} (h:yk r = true) :r = some (.bind (.builtin "getset_descriptor.__get__") (.builtin "object.__class__")):=by
 cases r with
 |none=>exact noConfusion h
 |some f=>
  cases f with
  |bind g a=>
   have h:=and_eq_true_iff.mp h;rw[YU h.1,YU h.2]
  |value v=>exact noConfusion h
  |missing=>exact noConfusion h
noncomputable def mM (K:Frag) (D:Addr):Bool:=
 (findIn K (.ref D) "__getattribute__" == some (some (.builtin "BaseException.__getattribute__"))) && (findIn K (.ref D) "__getattr__" == some none) && yk (findObj K D none "__class__") && (mroIn K D (.type "BaseException") == some true) && (mroIn K D (.type "object") == some true) && (clsIn K D).isSome
noncomputable def FK (K:Frag) (V:Value) (b:Bool) (g:Option Value):Bool:=match g with
 |some (.ref D)=>mM K D&&(kitOne K (.ref D) V==some b)&&(exmOne K (.ref D) V==some b)
 |_=>false
noncomputable def zG (K:Frag) (Vs:List Value) (b:Bool) (g:Option Value):Bool:=match g with
 |some (.ref D)=>mM K D&&(kitAny K (.ref D) Vs==some b)
 |_=>false
theorem ui [Hp] {K:Frag} {B:Heap} {b:Bool} {D:Addr} (X:K.In B) (h:FK K V b (some (.ref D))=true):fq B D V b:=by
 have h:(mM K D&&(kitOne K (.ref D) V==some b)&&(exmOne K (.ref D) V==some b))=true:=h;simp only[mM,Z7,beq_iff_eq]at h;obtain⟨⟨⟨⟨⟨⟨⟨h1,h2⟩,h3⟩,h4⟩,h5⟩,h6⟩,h7⟩,h8⟩:=h;exact zE X h1 h2 (mG h3) h4 h5 h6 h7 h8
theorem qP [Hp] {K:Frag} {B:Heap} {Vs:List Value} {b:Bool} {D:Addr} (X:K.In B) (h:zG K Vs b (some (.ref D))=true):dO B D Vs b:=by
 have h:(mM K D&&(kitAny K (.ref D) Vs==some b))=true:=h;simp only[mM,Z7,beq_iff_eq]at h;obtain⟨⟨⟨⟨⟨⟨h1,h2⟩,h3⟩,h4⟩,h5⟩,h6⟩,h7⟩:=h;exact v5 X h1 h2 (mG h3) h4 h5 h6 h7
noncomputable def E5 (K:Frag) (g:Str->Option Value) (V:Value) (yes no:List Str):Bool:=(yes.all λk=>FK K V true (g k))&&no.all λk=>FK K V false (g k)
noncomputable def E4 (K:Frag) (g:Str->Option Value) (Vs:List Value) (yes no:List Str):Bool:=(yes.all λk=>zG K Vs true (g k))&&no.all λk=>zG K Vs false (g k)
theorem BN [Hp] {K:Frag} {B:Heap} {g:Str->Option Value} {no:List Str} (X:K.In B) (h:E5 K g V yes no=true):∀k C,g k=some (.ref C)->(k∈yes->fq B C V true)/\(k∈no->fq B C V false):=by
 simp only[E5,Z7,ZN]at h;exact λk C hk=>⟨λhm=>ui X (hk▸h.1 k hm),λhm=>ui X (hk▸h.2 k hm)⟩
theorem BM [Hp] {K:Frag} {B:Heap} {g:Str->Option Value} {Vs:List Value} {no:List Str} (X:K.In B) (h:E4 K g Vs yes no=true):∀k C,g k=some (.ref C)->(k∈yes->dO B C Vs true)/\(k∈no->dO B C Vs false):=by
 simp only[E4,Z7,ZN]at h;exact λk C hk=>⟨λhm=>qP X (hk▸h.1 k hm),λhm=>qP X (hk▸h.2 k hm)⟩
noncomputable def iq (K:Frag) (x:Str):Option Value:=match K.lookup mainGlobals with
 |some ⟨_,_,.dict es _,_⟩=>nsFind es x
 |_=>none
theorem Bz {K:Frag} {mg:Str->Option Value} (X:K.In h) (g:h.Ns mainGlobals mg) {es:Array DictEntry} {c:Value} {d:Option Addr} {ep:Nat} {sl:Array (Option Value)} (hk:K.lookup mainGlobals=some ⟨c,d,.dict es ep,sl⟩) (x:Str):mg x=iq K x:=by
 obtain⟨o,Kb,Kc,ho,hd,_,hf⟩:=g;have:=X _ _ hk;rw[this]at ho;obtain rfl:=aF ho;cases hd;unfold iq;exact Er hk ((hf x).symm)
theorem kU [BEq α] [LawfulBEq α] {l:List (α×β)} {a:α} {b:β} (h:l.lookup a=some b):(a,b)∈l:=by
 induction l with
 |nil=>exact ah h
 |cons p l ih=>
  rw[Zv]at h;cases q:a==p.1 with
  |true=>rw[q]at h;refine Er (aF h).symm ?_;rw[beq_iff_eq]at q;exact Er q (.head _)
  |false=>rw[q]at h;exact .tail _ (ih h)
theorem rE {p:Program} {loose:List Str} {pJ:ExcName->Option Value} {mg mb:Str->Option Value} (T:Top p loose pJ mg mb h) {cls:List Str} {Bb MG N2:String} {bm:List Value} (FB:ExcBaseFacts Bb MG N2 bm)
  (hc:(cls.all λk=>(ownsOf p).any λo=>decide (o.name=k)&&decide (o.newId=MG)&&(o.bm==bm))=true):∀k∈cls, ∃C Bb newId gJ bm,OwnClsQ k C bm newId mg h/\ExcBaseFacts Bb newId gJ bm:=λk hk=>by
 rw[ZN]at hc;obtain⟨o,ho,hq⟩:=List.any_eq_true.mp (hc k hk);simp only[Z7,YZ,beq_iff_eq]at hq;obtain⟨⟨rfl,rfl⟩,rfl⟩:=hq;refine aQ (T.own o ho) λC q=>?_
 exact⟨C,_,_,_,_,q.1,FB⟩
end Mv
end
variable {d:Mv.D} {r e N m j k n c:Nat} {a b i:Int} {α:Type} {x op:PySem.Str} {l kn:List PySem.Str} {u t bn rest s s1:List Nat} {cs:List (PySem.Str×Nat)} {v:List Nat->Option (Mv.D×List Nat)}
section
open PySem PySem.W PyProof.Rows Mv
set_option maxHeartbeats 8000000
namespace Lq
theorem chk:yO (recsOf Hq.view) P.fns nss=true:=by decide +kernel
theorem chkBd:bL (recsOf Hq.view) P.fns nss=bR (recsOf Hq.view) P.fns nss:=by kernel_rfl
theorem chkF:tS Hq.view (looseW Hq.view Hq.loose)=true:=by decide +kernel
theorem chkC:(cls.all fun k=>(ownsOf Hq.view).any fun o=>decide (o.name = k) && decide (o.newId = "ValueError.__new__") && (o.bm == [.type "ValueError",.type "Exception",.type "BaseException",.type "object"])) = true:=by decide +kernel
noncomputable def FQ (K:Frag) (x:Str) :Value:=(iq K x).getD (.type "ValueError")
theorem LU (P:Params):(sb.all λe=>E5 (Hq.K P) (iq (Hq.K P)) (FQ (Hq.K P) e.1) e.2.1 e.2.2&&((iq (Hq.K P) e.1).isSome||decide (e.1=(⟨#[86,97,108,117,101,69,114,114,111,114]⟩:Str))))=true:=by kernel_rfl
theorem LR (P:Params):(sbt.all λe=>E4 (Hq.K P) (iq (Hq.K P)) (e.1.map (FQ (Hq.K P))) e.2.1 e.2.2&&e.1.all λx=>(iq (Hq.K P) x).isSome)=true:=by kernel_rfl
theorem FH:bootBuiltins (⟨#[86,97,108,117,101,69,114,114,111,114]⟩ :Str) = some (.type "ValueError"):=by kernel_rfl
theorem kG (P:Params):∃c d es ep sl,(Hq.K P).lookup mainGlobals=some ⟨c,d,.dict es ep,sl⟩:=⟨_,_,_,_,_,rfl⟩
end Lq
end
section
namespace Lq
open PySem Mv
noncomputable def gM (i:Int):Bool:=decide (-1000000000000000000<i)&&decide (i<1000000000000000000)
mutual
noncomputable def dep:D->Nat
 |.tuple ds=>bK ds+1
 |_=>0
noncomputable def bK:List D->Nat
 |[]=>0
 |d::ds=>max (dep d) (bK ds)
end
mutual
noncomputable def wt:D->Nat
 |.tuple ds=>1+eN ds
 |_=>1
noncomputable def eN:List D->Nat
 |[]=>0
 |d::ds=>wt d+eN ds
end
mutual
noncomputable def good:D->Bool
 |.tuple ds=>cI ds
 |.int i=>gM i
 |_=>false
noncomputable def cI:List D->Bool
 |[]=>true
 |d::ds=>good d&&cI ds
end
inductive jY {α:Sort _} (A B:α->Prop):Prop
 |mk (x:α):A x->B x->jY A B
inductive z3 {α:Sort _} (A B C:α->Prop):Prop
 |mk (x:α):A x->B x->C x->z3 A B C
inductive Ml {α β:Sort _} (A B:α->β->Prop):Prop
 |mk (x:α) (y:β):A x y->B x y->Ml A B
inductive FZ {α β:Sort _} (A B C:α->β->Prop):Prop
 |mk (x:α) (y:β):A x y->B x y->C x y->FZ A B C
theorem we (d:D):1<=wt d:=by cases d<;>simp[wt]
noncomputable def kH (d:D) (r:Int):Int:=if good d=true/\(wt d:Int)<=r then r-wt d else -1
theorem gY {r:Int} (h:good d=true/\(wt d:Int)<=r):kH d r=r-wt d:=YV h
theorem bJ {r:Int} (h:¬(good d=true/\(wt d:Int)<=r)):kH d r = -1:=YW h
theorem uK (n:Nat) (t:D) (r0:Int) (ih:∀(d:D) (r:Int),dep d<n->cF P n false 0 [.fz d,.fz (.int r)]=some (.ok (.fz (.int (kH d r))),[])):∀(ds:List D) (left:Int) (s4:Slot),bK ds<n->0<=left->
  ((cI ds=true/\(eN ds:Int)<=left)->dL ⟨P.glob,cF P n,[],false⟩ [.fz t,.fz (.int r0),.no,.fz (.int left),s4] (.one 4) [.asg (.one 3) (.call 0 [aa 4,aa 3]),.iff (.cmp .lt (aa 3) (ai 0)) [.ret (.neg (ai 1))] []] [4] ds=some (.ok .next,[.fz t,.fz (.int r0),.no,.fz (.int (left-eN ds)),.no]))/\
  (¬(cI ds=true/\(eN ds:Int)<=left)-> ∃fr,dL ⟨P.glob,cF P n,[],false⟩ [.fz t,.fz (.int r0),.no,.fz (.int left),s4] (.one 4) [.asg (.one 3) (.call 0 [aa 4,aa 3]),.iff (.cmp .lt (aa 3) (ai 0)) [.ret (.neg (ai 1))] []] [4] ds=some (.ok (.ret (.fz (.int (-1)))),fr)):=by
 intro ds
 induction ds with
 |nil=>
  intro left s4 _ hl;refine⟨λac=>?_,λh=>absurd ⟨rfl,by simpa [eN] using hl⟩ h⟩;have e:left-((eN []:Nat):Int)=left:=by simp[eN]
  rw[cQ];refine Er e ?_;rfl
 |cons d ds IH=>
  intro left s4 h hl;have h1:dep d<n:=by simp only[bK]at h;exact(Ln [dep d,n,max (dep d) (bK ds)] (.w (.p 1 .x) .y) [Gl (.p 1 .z) .y,Gl .x .z] rfl h (le_max_left (dep d) (bK ds)))
  have h2:bK ds<n:=by simp only[bK]at h;exact(Ln [bK ds,n,max (dep d) (bK ds)] (.w (.p 1 .x) .y) [Gl (.p 1 .z) .y,Gl .x .z] rfl h (le_max_right (dep d) (bK ds)))
  have e:=ih d left h1;have eg:cI (d::ds)=(good d&&cI ds):=rfl;refine Er eg (Er (rfl:eN (d::ds)=wt d+eN ds) ?_)
  by_cases hg:good d=true/\(wt d:Int)<=left
  .rw[gY hg]at e
   have lt:¬(left-(wt d:Int)<0):=by exact(λHS=>(dW [wt d] [left] [Gi (.n .x) .x,Gi (.p 1 (.s .x (.n .x))) (.c 0)] rfl hg.2 HS))
   refine⟨λz=>?_,λz=>?_⟩
   .have z1:=z.1
    rw[hg.1,Z3]at z1;have q:=(IH (left-wt d) (.fz d) h2 (d7 [wt d] [left] 1 (.i (.c 0) (.s .x (.n .x))) [Gi (.n .x) .x] rfl hg.2)).1 ⟨z1,by have:=z.2;push_cast at this;exact(d7 [eN ds,wt d] [left] 1 (.i (.n .x) (.s .x (.n .y))) [Gi (.n (.a .y .x)) .x] rfl z.2)⟩;have:left - ↑(wt d) - ↑(eN ds)=left - ↑(wt d+eN ds):=by push_cast;exact(rT [wt d,eN ds] [left] (.j (.s (.s .x (.n .x)) (.n .y)) (.s .x (.a (.n .x) (.n .y)))) [] rfl)
    rw[this]at q;exact mn [.c 0 e,.b 0 (show ag Cm.lt (int (left-(↑(wt d):Int))) (int (0:Int))=some false by simp only[bz,lt,YY]),.lp 1 q] rfl
   .obtain⟨fr,q⟩:=(IH (left-wt d) (.fz d) h2 (d7 [wt d] [left] 1 (.i (.c 0) (.s .x (.n .x))) [Gi (.n .x) .x] rfl hg.2)).2 λz'=>z ⟨by refine Er hg.1 (Er z'.1 ?_);rfl,by have:=z'.2;push_cast;exact(d7 [wt d,eN ds] [left] 1 (.i (.a (.n .x) (.n .y)) .x) [Gi (.n .y) (.s .x (.n .x))] rfl z'.2)⟩
    exact⟨fr,by exact mn [.c 0 e,.b 0 (show ag Cm.lt (int (left-(↑(wt d):Int))) (int (0:Int))=some false by simp only[bz,lt,YY]),.lp 1 q] rfl⟩
  .have e:=(bJ hg)▸e
   refine⟨λz=>absurd ⟨?_,by have:=z.2;push_cast at this;exact(d7 [wt d,eN ds] [left] 1 (.i (.n .x) .x) [Gi (.n (.a .x .y)) .x] rfl z.2)⟩ hg,λac=>⟨[.fz t,.fz (.int r0),.no,.fz (.int (-1)),.fz d],by exact mn [.c 0 e] rfl⟩⟩;have z1:=z.1;rw[Z7]at z1;exact z1.1
theorem AL:∀(n:Nat) (d:D) (r:Int),dep d<n->cF P n false 0 [.fz d,.fz (.int r)]=some (.ok (.fz (.int (kH d r))),[]):=by
 intro n
 induction n with
 |zero=>intro d r h;exact(False.elim (Lf [dep d] [Gl (.p 1 .x) (.c 0)] rfl h))
 |succ n ih=>
  intro d r h
  by_cases h1:r<1
  .exact Er (bJ (by have:=we d;exact(λrN=>(dW [wt d] [r] [Gi (.p 1 .x) (.c 1),Gl (.c 1) .x,Gi (.n .x) .x] rfl h1 this rN.2)))) (aJ [.b 0 (show ag Cm.lt (int r) (int (1:Int))=some true by simp only[bz,h1,YX])] rfl)
  .cases d with
   |tuple ds=>
    obtain⟨q1,q2⟩:=uK n (.tuple ds) r ih ds (r-1) .no (by simp only[dep]at h;exact(L1 [bK ds,n] (.p 1 .x) .y (.p 1 (.p 1 .x)) (.p 1 .y) rfl h)) (Li [r] (.i (.c 0) (.s .x (.c 1))) [Gi (.c 1) .x] rfl (Int.not_lt.mp h1))
    by_cases hg:cI ds=true/\(eN ds:Int)<=r-1
    .have q:=q1 hg
     refine Er (gY ⟨by refine Er (rfl:good (.tuple ds)=cI ds) ?_;exact hg.1,by refine Er (rfl:wt (.tuple ds)=1+eN ds) ?_;push_cast;exact(d7 [eN ds] [r] 1 (.i (.a (.c 1) (.n .x)) .x) [Gi (.n .x) (.s .x (.c 1))] rfl hg.2)⟩) (Er (rfl:wt (.tuple ds)=1+eN ds) ?_);have:r-1-(eN ds:Int)=r-((1+eN ds:Nat):Int):=by push_cast;exact(rT [eN ds] [r] (.j (.s (.s .x (.c 1)) (.n .x)) (.s .x (.a (.c 1) (.n .x)))) [] rfl)
     exact Er this.symm (aJ [.b 0 (show ag Cm.lt (int r) (int (1:Int))=some false by simp only[bz,h1,YY]),.lp 6 q] rfl)
    .obtain⟨fr,q⟩:=q2 hg
     exact Er (bJ (λz=>hg ⟨by rw[(rfl:good (.tuple ds)=cI ds)]at z;exact z.1,by have:=z.2;rw[(rfl:wt (.tuple ds)=1+eN ds)]at this;push_cast at this;exact(d7 [eN ds] [r] 1 (.i (.n .x) (.s .x (.c 1))) [Gi (.a (.c 1) (.n .x)) .x] rfl this)⟩)) (aJ [.b 0 (show ag Cm.lt (int r) (int (1:Int))=some false by simp only[bz,h1,YY]),.lp 6 q] rfl)
   |int i=>
    have eg:good (.int i)=gM i:=rfl
    by_cases h2: -1000000000000000000<i
    .by_cases h3:i<1000000000000000000
     .refine Er (gY ⟨by refine Er eg ?_;simp[gM,h2,h3],by refine Er (rfl:wt (.int i)=1) ?_;exact(Li [r] (.i (.n (.c 1)) .x) [Gi (.c 1) .x] rfl (Int.not_lt.mp h1))⟩) ?_
      exact Er (rfl:((wt (.int i):Nat):Int)=1) (aJ [.b 0 (show ag Cm.lt (int r) (int (1:Int))=some false by simp only[bz,h1,YY]),.b 9 (show ag Cm.lt (int (-1000000000000000000:Int)) (int i)=some true by simp only[reduceNeg,bz,h2,YX]),.b 1 (show ag Cm.lt (int i) (int (1000000000000000000:Int))=some true by simp only[bz,h3,YX])] rfl)
     .exact Er (bJ (λz=>h3 (by have:=z.1;rw[eg]at this;simp[gM]at this;exact this.2))) (aJ [.b 0 (show ag Cm.lt (int r) (int (1:Int))=some false by simp only[bz,h1,YY]),.b 9 (show ag Cm.lt (int (-1000000000000000000:Int)) (int i)=some true by simp only[reduceNeg,bz,h2,YX]),.b 1 (show ag Cm.lt (int i) (int (1000000000000000000:Int))=some false by simp only[bz,h3,YY])] rfl)
    .exact Er (bJ (λz=>h2 (by have:=z.1;have this:=eg▸this;simp[gM]at this;exact this.1))) (aJ [.b 0 (show ag Cm.lt (int r) (int (1:Int))=some false by simp only[bz,h1,YY]),.b 9 (show ag Cm.lt (int (-1000000000000000000:Int)) (int i)=some false by simp only[reduceNeg,bz,h2,YY])] rfl)
   |none=>exact Er (bJ (λz=>by cases z.1)) (aJ [.b 0 (show ag Cm.lt (int r) (int (1:Int))=some false by simp only[bz,h1,YY])] rfl)
   |bool b=>exact Er (bJ (λz=>by cases z.1)) (aJ [.b 0 (show ag Cm.lt (int r) (int (1:Int))=some false by simp only[bz,h1,YY])] rfl)
   |str b=>exact Er (bJ (λz=>by cases z.1)) (aJ [.b 0 (show ag Cm.lt (int r) (int (1:Int))=some false by simp only[bz,h1,YY])] rfl)
   |list b=>exact Er (bJ (λz=>by cases z.1)) (aJ [.b 0 (show ag Cm.lt (int r) (int (1:Int))=some false by simp only[bz,h1,YY])] rfl)
   |dict b=>exact Er (bJ (λz=>by cases z.1)) (aJ [.b 0 (show ag Cm.lt (int r) (int (1:Int))=some false by simp only[bz,h1,YY])] rfl)
theorem pS (n:Nat) (d:D) (h:dep d<n):cF P (n+1) false 1 [.fz d]=some (.ok (.fz (.bool (good d&&decide (wt d<=50)))),[]):=by
 have:decide (0<=kH d 50)=(good d&&decide (wt d<=50)):=by
  by_cases hg:good d=true/\(wt d:Int)<=50
  .refine Er (gY hg) (Er hg.1 ?_)
   have h1:wt d<=50:=by exact(Ln [wt d] (.w .x (.c 50)) [Gi (.n .x) (.c 50)] rfl hg.2)
   have h2:(0:Int)<=50-wt d:=by exact(Ln [wt d] (.i (.c 0) (.s (.c 50) (.n .x))) [Gi (.n .x) (.c 50)] rfl hg.2)
   simp[h1];exact(hg.2)
  .refine Er (bJ hg) ?_
   symm
   refine Er (show decide (0<=(-1:Int))=false from rfl) ?_;rw[Bool.and_eq_false_iff];cases hq:good d with
   |false=>exact .inl rfl
   |true=>right;simp only[decide_eq_false_iff_not];intro z;exact hg ⟨hq,by exact(Ln [wt d] (.i (.n .x) (.c 50)) [Gl .x (.c 50)] rfl z)⟩
 exact Er this.symm (aJ [.c 0 ((AL n d 50 h)),.b 0 (show ag Cm.ge (int (kH d (50:Int))) (int (0:Int))=some (decide ((0:Int)<=kH d (50:Int))) by simp only[LY])] rfl)
theorem nU (ha:a.natAbs<2 ^ 64):u4 a b=some (.fz (.int (a*b))):=by
 unfold u4 pI;refine Er (Y0 ha) ?_;rfl
theorem xT (hb:b.natAbs<2 ^ 64):u4 a b=some (.fz (.int (a*b))):=by
 unfold u4 pI;refine Er (Y0 hb) ?_;rw[Bool.or_true];rfl
def Vl (d:D):Prop:=good d=true/\dep d<=5/\wt d<=10
theorem Vl.int (h1: -1000000000000000000<i) (h2:i<1000000000000000000):Vl (.int i):=⟨by show gM i=true;unfold gM;refine Er (Y0 h1) (Er (Y0 h2) ?_);rfl,by show 0<=5;decide,by show 1<=10;decide⟩
theorem fm (a:Int) (m:Int) (h0:0<m):0<=a.fmod m/\a.fmod m<m:=⟨Int.fmod_nonneg_of_pos a h0,Int.fmod_lt_of_pos a h0⟩
def rn (d:D):Prop:= ∃i:Int,d = .int i/\0<=i/\i<1000
theorem gy:∀ {ds:List D},(∀d∈ds,rn d)->cI ds=true/\bK ds=0/\eN ds=ds.length:=by
 intro ds
 induction ds with
 |nil=>exact @λac=>⟨rfl,rfl,rfl⟩
 |cons d ds ih=>
  intro h;refine aQ (h d Zn) λi Q=>?_;refine Er Q.1 ?_
  have q:=ih (hG h)
  refine⟨?_,?_,?_⟩
  .show(gM i&&cI ds)=true
   unfold gM;refine Er q.1 (Er (Y0 (by exact(Li [i] (.i (.p 1 (.g (.c 1000000000000000000))) .x) [Gi (.c 0) .x] rfl Q.2.1))) (Er (Y0 (by exact(Li [i] (.i (.p 1 .x) (.c 1000000000000000000)) [Gi (.p 1 .x) (.c 1000)] rfl Q.2.2))) ?_));rfl
  .exact(Zi (Nat.max_le.mpr ⟨(L0 [] (.c 0) (.c 0) rfl),(Ln [bK ds] (.w .x (.c 0)) [Ge .x (.c 0)] rfl q.2.1)⟩) (L0 [max (0:Nat) (bK ds)] (.c 0) .x rfl))
  .exact(Le [eN ds,ds.length] (.e (.a (.c 1) .x) (.p 1 .y)) [Gp .x .y] rfl q.2.2)
theorem Vl.smalls {ds:List D} (h:∀d∈ds,rn d) (hl:ds.length<=9):Vl (.tuple ds):=by
 exact⟨(gy h).1,by show bK ds+1<=5;exact(Ln [bK ds] (.w (.p 1 .x) (.c 5)) [Ge .x (.c 0)] rfl (gy h).2.1),by show 1+eN ds<=10;exact(Ln [eN ds,ds.length] (.w (.a (.c 1) .x) (.c 10)) [Gl .y (.c 9),Ge .x .y] rfl hl (gy h).2.2)⟩
theorem idx_map (xs:List Int) (i:Int) (h0:0<=i) (h1:i<xs.length):∃c,aW (xs.map int) i=some (.int c):=by
 unfold aW;refine Er (YV h0) ?_;have hl:i.toNat<(xs.map int).length:=by rw[ZB];exact(d7 [i.toNat,xs.length] [i] 1 (.w (.p 1 .x) .y) [Gi (.p 1 .x) (.n .y),Gj (.n .x) .x] rfl h1 (ZQ (a:=i) h0))
 exact⟨xs[i.toNat]'(by simpa using hl),by refine Er (ZG hl) ?_;simp⟩
theorem cell (n:Nat) (xs:List Int) (i:Int) (h0:0<=i):∃c,cF P (n+1) false 21 [.fz (.list (xs.map .int)),.fz (.int i)]=some (.ok (.fz (.int c)),[]):=by
 by_cases q:i<xs.length
 .exact aQ (idx_map xs i h0 q) λc hc=>(⟨c,by exact aJ [.b 1 (show ag Cm.lt (int i) (int (↑(List.map int xs).length:Int))=some true by simp only[ZB,bz,q,YX]),.d 1 hc] rfl⟩)
 .exact⟨0,by exact aJ [.b 1 (show ag Cm.lt (int i) (int (↑(List.map int xs).length:Int))=some false by simp only[ZB,bz,q,YY])] rfl⟩
theorem Di (n:Nat) (bP:Int) (s1:Slot):∀(ks:List Nat) (s2:Slot),(∀k∈ks,k<20)->
  ∃rs,aZ ⟨P.glob,cF P n,[],false⟩ [.fz (.int bP),s1,s2] (.op2 .mod (.op2 .fdiv (aa 0) (ai 16)) (.op2 .add (aa 2) (ai 2))) (.one 2) [] (ks.map λ(k:Nat)=>.int (0+k))=some (.ok rs,[.fz (.int bP),s1,.no])/\rs.length=ks.length/\ ∀d∈rs,rn d:=by
 intro ks
 induction ks with
 |nil=>exact @λs2 ac=>⟨[],by refine Er Zr ?_;rw[bc];rfl,rfl,λac h=>by cases h⟩
 |cons k ks ih=>
  intro s2 hk;refine aQ (ih (.fz (.int (0+k))) (hG hk)) λrs q=>?_
  refine⟨.int ((bP.fdiv 16).fmod (0+k+2))::rs,?_,Y2 (· + 1) q.2.1,λd hd=>?_⟩
  .have h0:¬((0:Int)+k+2=0):=by exact(λHU=>(Lf [k] [Gj (.p 2 (.a (.c 0) (.n .x))) (.c 0)] rfl HU))
   exact mq [.cp 3 (q.1)] rfl
  .rcases mem_cons.mp hd with rfl|hd
   .exact⟨_,rfl,(fm (bP.fdiv 16) (0+k+2) (Ln [k] (.i (.p 1 (.c 0)) (.p 2 (.a (.c 0) (.n .x)))) [] rfl)).1,by exact(d7 [k] [(bP.fdiv (16:Int)).fmod ((0:Int)+(↑k:Int)+(2:Int))] 1 (.i (.p 1 .x) (.c 1000)) [Gl (.p 1 .x) (.c 20),Gi (.p 1 .x) (.p 2 (.a (.c 0) (.n .x)))] rfl (hk k Zn) ((fm (bP.fdiv 16) (0+k+2) (Ln [k] (.i (.p 1 (.c 0)) (.p 2 (.a (.c 0) (.n .x)))) [] rfl))).2)⟩
   .exact q.2.2 d hd
noncomputable abbrev tj:List D:=[.int 0,.int 1,.int 2,.int 3,.int 5,.int (-1),.int (-4),.tuple [],.tuple [.int 1],.tuple [.int 2,.int 0],.tuple [.int 1,.int 2,.int 3],.tuple [.tuple [],.int 1],.tuple [.tuple [.int 1,.int 2],.tuple [.int 3]],.tuple [.int 4,.tuple [.int 5,.tuple [.int 6]]]]
theorem bZ {xs:List α} {r:Int} (h0:0<=r) (h1:r<xs.length):jY (λd=>aW xs r=some d) (λd=>d∈xs):=by
 unfold aW;refine Er (YV h0) ?_;have hl:r.toNat<xs.length:=by exact(d7 [r.toNat,xs.length] [r] 1 (.w (.p 1 .x) .y) [Gi (.p 1 .x) (.n .y),Gj (.n .x) .x] rfl h1 (ZQ (a:=r) h0))
 exact⟨xs[r.toNat],ZG hl,getElem_mem hl⟩
noncomputable def Ga (d:D):Bool:=good d&&decide (dep d<=5)&&decide (wt d<=10)
theorem nh (h:Ga d=true):Vl d:=by
 unfold Ga at h;rw[Z7,Z7]at h;exact⟨h.1.1,YU h.1.2,YU h.2⟩
theorem uD:tj.all Ga=true:=by kernel_rfl
theorem uC (r:Int) (h0:0<=r) (h1:r<14):jY (λd=>aW tj r=some d) (λd=>Vl d):=by
 obtain⟨d,h,m⟩:=bZ (xs:=tj) h0 h1;exact⟨d,h,nh (all_eq_true.mp uD d m)⟩
theorem wu (n:Nat) (bP:Int):jY (λd=>cF P (n+1) false 23 [.fz (.int bP)]=some (.ok (.fz d),[])) (λd=>Vl d):=by
 by_cases q:bP.fmod 16=14
 .have hf:=fm (bP.fdiv 16) 1999999999999999999 (by decide)
  exact⟨.int ((bP.fdiv 16).fmod 1999999999999999999-1000000000000000000+1),by exact aJ [.b 1 (show ag Cm.eq (int (bP.fmod (16:Int))) (int (14:Int))=some true by simp only[q,dY,YX])] rfl,.int (Li [(bP.fdiv (16:Int)).fmod (1999999999999999999:Int)] (.i (.p 1 (.g (.c 1000000000000000000))) (.p 1 (.s .x (.c 1000000000000000000)))) [Gi (.c 0) .x] rfl hf.1) (Li [(bP.fdiv (16:Int)).fmod (1999999999999999999:Int)] (.i (.p 1 (.p 1 (.s .x (.c 1000000000000000000)))) (.c 1000000000000000000)) [Gi (.p 1 .x) (.c 1999999999999999999)] rfl hf.2)⟩
 .by_cases q2:bP.fmod 16=15
  .have hf:=fm (bP.fdiv 16) 9 (by decide)
   have ht: -1000000000<=(bP.fdiv 16).fmod 9/\(bP.fdiv 16).fmod 9<=(Sz:Nat):=⟨by exact(Li [(bP.fdiv (16:Int)).fmod (9:Int)] (.i (.g (.c 1000000000)) .x) [Gi (.c 0) .x] rfl hf.1),by show(bP.fdiv 16).fmod 9<=16777216;exact(Li [(bP.fdiv (16:Int)).fmod (9:Int)] (.i .x (.c 16777216)) [Gi (.p 1 .x) (.c 9)] rfl hf.2)⟩
   obtain⟨rs,Q⟩:=Di n bP (.own (.list tj)) (List.range ((bP.fdiv 16).fmod 9).toNat) .no λk hk=>by have:=mem_range.mp hk;exact(d7 [k,((bP.fdiv (16:Int)).fmod (9:Int)).toNat] [(bP.fdiv (16:Int)).fmod (9:Int)] 1 (.w (.p 1 .x) (.c 20)) [Gi (.p 1 .x) (.c 9),Gl (.p 1 .x) .y,Gj (.n .y) .x] rfl hf.2 this (ZQ (a:=(bP.fdiv (16:Int)).fmod (9:Int)) (hf.1)))
   exact⟨.tuple rs,by exact aJ [.b 1 (show ag Cm.eq (int (bP.fmod (16:Int))) (int (14:Int))=some false by simp only[q2,dY,Int.reduceEq,YY]),.b 2 (show ag Cm.eq (int (bP.fmod (16:Int))) (int (15:Int))=some true by simp only[q2,dY,YX]),.l 3 (show cj iU.range [int ((bP.fdiv (16:Int)).fmod (9:Int))]=some (f6 (0:Int) ((bP.fdiv (16:Int)).fmod (9:Int)).toNat) by simp only[cA,reduceNeg,ht,and_self,if_true]),.cp 0 (Q.1)] rfl,.smalls Q.2.2 (by refine Er Q.2.1 (Er ZA ?_);exact(d7 [((bP.fdiv (16:Int)).fmod (9:Int)).toNat] [(bP.fdiv (16:Int)).fmod (9:Int)] 1 (.w .x (.c 9)) [Gi (.p 1 .x) (.c 9),Gj (.n .x) .x] rfl hf.2 (ZQ (a:=(bP.fdiv (16:Int)).fmod (9:Int)) (hf.1))))⟩
  .obtain⟨d,hd,hv⟩:=uC (bP.fmod 16) (fm bP 16 (by decide)).1 (Y4 (ZT q) (λEl=>El) (λEl=>(Y4 (ZT q2) (λpF=>(d7 [] [bP.fmod (16:Int)] 0 (.i (.p 1 .x) (.c 14)) [Gi (.p 1 (.c 14)) .x,Gi (.p 1 .x) (.c 15)] rfl El pF)) (λpF=>(d7 [] [bP.fmod (16:Int)] 0 (.i (.p 1 .x) (.c 14)) [Gi (.p 1 .x) (.c 16),Gi (.p 1 (.c 15)) .x] rfl ((fm bP 16 (by decide))).2 pF)))))
   exact⟨d,by exact aJ [.b 1 (show ag Cm.eq (int (bP.fmod (16:Int))) (int (14:Int))=some false by simp only[dY,q,YY]),.b 2 (show ag Cm.eq (int (bP.fmod (16:Int))) (int (15:Int))=some false by simp only[dY,q2,YY]),.d 2 hd] rfl,hv⟩
noncomputable abbrev yc:Str:=⟨[112,108,117,115].toArray⟩
noncomputable abbrev tG:Str:=⟨[109,105,110,117,115].toArray⟩
noncomputable abbrev tF:Str:=⟨[116,105,109,101,115].toArray⟩
noncomputable abbrev yd:Str:=⟨[111,118,101,114].toArray⟩
noncomputable abbrev ye:Str:=⟨[108,101,115,115].toArray⟩
noncomputable abbrev yb:Str:=⟨[115,97,109,101].toArray⟩
noncomputable abbrev nX:Str:=⟨[106,111,105,110].toArray⟩
noncomputable abbrev rV:Str:=⟨[100,111,119,110].toArray⟩
noncomputable abbrev nY:Str:=⟨[102,105,114,115,116].toArray⟩
noncomputable abbrev rU:Str:=⟨[114,101,115,116].toArray⟩
noncomputable abbrev hK:Str:=⟨[101,109,112,116,121].toArray⟩
noncomputable abbrev d8:Str:=⟨[108,105,115,116].toArray⟩
noncomputable abbrev fc:Str:=⟨[105,102].toArray⟩
noncomputable abbrev aK:Str:=⟨[114,101,102,117,115,101].toArray⟩
noncomputable abbrev be:Str:=⟨[118,97,108,117,101].toArray⟩
noncomputable abbrev bX:Str:=⟨[110,97,109,101].toArray⟩
noncomputable abbrev gI:Str:=⟨[100,111].toArray⟩
noncomputable abbrev bY:Str:=⟨[99,97,108,108].toArray⟩
noncomputable abbrev gD:List Str:=[yc,tG,tF,yd,ye,yb,nX]
noncomputable abbrev mz:List Str:=[rV,nY,rU,hK]
noncomputable abbrev eQ:List Str:=[⟨[78,111,78,117,109,98,101,114].toArray⟩,⟨[78,111,76,105,115,116].toArray⟩,⟨[78,111,70,105,114,115,116].toArray⟩,⟨[78,111,68,111,119,110].toArray⟩,⟨[66,121,78,111,117,103,104,116].toArray⟩,⟨[84,111,111,71,114,101,97,116].toArray⟩]
noncomputable abbrev bl:List Nat:=[97,98,99,100,101,102,103,104,105,106,107,108,109,110,111,112,113,114,115,116,117,118,119,120,121,122]
noncomputable abbrev figuresN:List Nat:=[48,49,50,51,52,53,54,55,56,57]
noncomputable def cu (x:Str) (l:List Str):Bool:=l.any λy=>decide (y=x)
theorem bk:cu x l=true↔x∈l:=by
 unfold cu;rw[List.any_eq_true];exact⟨λ⟨y,hy,h⟩=>YU h▸hy,λh=>⟨x,h,Y0 rfl⟩⟩
theorem sP (x:Str):∀l:List Str,iE (.str x) (l.map .str)=some (cu x l):=by
 intro l
 induction l with
 |nil=>exact rfl
 |cons y l ih=>
  show(match mP (.str y) (.str x) with|none=>none|some b=>match iE (.str x) (l.map .str) with|none=>none|some c=>some (b||c))=_
  rw[e_strD];refine Er ih ?_;rfl
theorem f9 (x:Str) (l:List Str):n5 (.str x) (.tuple (l.map .str))=some (cu x l):=by
 show(if noDict (.str x)=true then iE (.str x) (l.map .str) else none)=_
 refine Er (YV (show noDict (.str x)=true from rfl)) ?_;rw[sP]
theorem Ii (x:Str):n5 (.str x) tP=some (cu x gD):=f9 x gD
theorem KU (x:Str):n5 (.str x) mI=some (cu x mz):=f9 x mz
theorem KT (x:Str):n5 (.str x) tO=some (cu x eQ):=f9 x eQ
theorem Ij (c:Nat):n5 (.str ⟨#[c]⟩) dc=some (bl.contains c):=rfl
theorem yp (c:Nat):n5 (.str ⟨#[c]⟩) jB=some (figuresN.contains c):=rfl
noncomputable def cP (x:Str):Bool:=cu x gD||(cu x mz||decide (x=d8))
theorem kY (n:Nat) (x:Str):cF P (n+1) false 2 [.fz (.str x)]=some (.ok (.fz (.bool (cP x))),[]):=by
 have hp:=Ii x;have hs:=KU x;unfold cP;cases h1:cu x gD<;>cases h2:cu x mz<;>rw[h1]at hp<;>rw[h2]at hs<;>(first|exact aJ [.b 0 hp,.b 1 hs,.b 1 (show ag Cm.eq (str x) (str {cps:=#[(108:Nat),(105:Nat),(115:Nat),(116:Nat)]})=some (decide (x={cps:=#[(108:Nat),(105:Nat),(115:Nat),(116:Nat)]})) by simp only[fY])] rfl (by kernel_rfl!)|exact aJ [.b 0 hp,.b 1 hs] rfl (by kernel_rfl!)|exact aJ [.b 0 hp] rfl (by kernel_rfl!))
noncomputable def br (x:Str) (m:Int):Bool:=if x=d8 then decide (m<=8) else m==(if cu x gD=true then 2 else 1)
theorem wG (n:Nat) (x:Str) (m:Int):cF P (n+1) false 3 [.fz (.str x),.fz (.int m)]=some (.ok (.fz (.bool (br x m))),[]):=by
 have hp:=Ii x;unfold br
 by_cases q:x=d8
 .exact Er (YV q) (aJ [.b 0 (show ag Cm.eq (str x) (str {cps:=#[(108:Nat),(105:Nat),(115:Nat),(116:Nat)]})=some true by simp only[q,fY,YX]),.b 1 (show ag Cm.le (int m) (int (8:Int))=some (decide (m<=(8:Int))) by simp only[iu])] rfl)
 .refine Er (YW q) ?_;cases h1:cu x gD<;>rw[h1]at hp<;>(first|exact aJ [.b 0 (show ag Cm.eq (str x) (str {cps:=#[(108:Nat),(105:Nat),(115:Nat),(116:Nat)]})=some false by simp only[fY,q,YY]),.b 1 hp,.b 1 (show ag Cm.eq (int m) (int (1:Int))=some (decide (m=(1:Int))) by simp only[dY])] rfl (by kernel_rfl!)|exact aJ [.b 0 (show ag Cm.eq (str x) (str {cps:=#[(108:Nat),(105:Nat),(115:Nat),(116:Nat)]})=some false by simp only[fY,q,YY]),.b 1 hp,.b 1 (show ag Cm.eq (int m) (int (2:Int))=some (decide (m=(2:Int))) by simp only[dY])] rfl (by kernel_rfl!))
noncomputable def gz (c:Nat):Bool:=bl.contains c||figuresN.contains c
theorem gT (f:α->Bool):∀l:List α,allB (l.map λc=>.bool (f c))=some (l.all f):=by
 intro l
 induction l with
 |nil=>exact rfl
 |cons c l ih=>
  show(allB (l.map λc=>.bool (f c))).map (f c && ·)=_
  refine Er ih ?_;rfl
theorem uF (n:Nat) (x:Slot):∀(cs:List Nat) (s1:Slot),aZ ⟨P.glob,cF P n,[],false⟩ [x,s1] (.or [.cmp .isin (aa 1) (.gl 6),.cmp .isin (aa 1) (.gl 7)]) (.one 1) [] (cs.map λc=>.str ⟨#[c]⟩)=some (.ok (cs.map λc=>.bool (gz c)),[x,.no]):=by
 intro cs
 induction cs with
 |nil=>exact @λs1=>by refine Er Zr ?_;rw[bc];rfl
 |cons c cs IH=>
  intro s1;have ih:=IH (.fz (.str ⟨#[c]⟩));have h1:=Ij c;have h2:=yp c;refine Er Zt (Er Zt ?_);unfold gz at ih ⊢;cases q1:bl.contains c<;>cases q2:figuresN.contains c<;>rw[q1]at h1<;>rw[q2]at h2<;>(first|exact mq [.b 0 h1,.b 1 h2,.cp 0 ih] rfl (by kernel_rfl!)|exact mq [.b 0 h1,.cp 1 ih] rfl (by kernel_rfl!))
noncomputable def tK (x:Str):Bool:=match x.cps.toList with
 |c::_=>bl.contains c
 |[]=>false
noncomputable def aH (x:Str):Bool:=decide (1<=x.cps.size)&&(decide (x.cps.size<=8)&&(tK x&&(!cP x&&(!decide (x=fc)&&(!decide (x=aK)&&x.cps.toList.all gz)))))
theorem rX (n:Nat) (x:Str):cF P (n+2) false 4 [.fz (.str x)]=some (.ok (.fz (.bool (aH x))),[]):=by
 have ho:=kY n x
 by_cases h1:1<=x.cps.size
 rotate_left
 .have g1:¬(1:Int)<=x.cps.size:=by exact(λrP=>(Lf [x.cps.size] [Gl (.p 1 .x) (.c 1),Gi (.c 1) (.n .x)] rfl (Nat.not_le.mp h1) rP))
  unfold aH;exact Er (Y1 h1) (aJ [.b 4 (show ag Cm.le (int (1:Int)) (int (↑x.cps.size:Int))=some false by simp only[iu,g1,YY])] rfl)
 have g1:(1:Int)<=x.cps.size:=by exact(Ln [x.cps.size] (.i (.c 1) (.n .x)) [Gl (.c 1) .x] rfl h1)
 by_cases h8:x.cps.size<=8
 rotate_left
 .have g8:¬(x.cps.size:Int)<=8:=by exact(λrO=>(Lf [x.cps.size] [Gl (.p 1 (.c 8)) .x,Gi (.n .x) (.c 8)] rfl (Nat.not_le.mp h8) rO))
  unfold aH;exact Er (Y1 h8) (Er (Y0 h1) (aJ [.b 4 (show ag Cm.le (int (1:Int)) (int (↑x.cps.size:Int))=some true by simp only[iu,g1,YX]),.b 1 (show ag Cm.le (int (↑x.cps.size:Int)) (int (8:Int))=some false by simp only[iu,g8,YY])] rfl))
 have g8:(x.cps.size:Int)<=8:=by exact(Ln [x.cps.size] (.i (.n .x) (.c 8)) [Gl .x (.c 8)] rfl h8)
 obtain⟨c,l,hl⟩:∃c l,x.cps.toList=c::l:=by
  match hq:x.cps.toList with
  |c::l=>exact⟨c,l,rfl⟩
  |[]=>have:=Y2 length hq;simp at this;rw[this]at h1;exact absurd h1 (by decide)
 have hi:aW x.cps.toList 0=some c:=by refine Er hl ?_;rfl
 have hh:tK x=bl.contains c:=by unfold tK;exact Er hl rfl
 have hL:=Ij c;have lp:=λs1=>uF (n+1) (.fz (.str x)) x.cps.toList s1
 unfold aH;refine Er hh (Er (Y0 h1) (Er (Y0 h8) ?_));cases q1:bl.contains c<;>have hL:=q1▸hL
 .exact aJ [.b 4 (show ag Cm.le (int (1:Int)) (int (↑x.cps.size:Int))=some true by simp only[iu,g1,YX]),.b 1 (show ag Cm.le (int (↑x.cps.size:Int)) (int (8:Int))=some true by simp only[iu,g8,YX]),.d 2 (show fU (str x) (int (0:Int))=some (str {cps:=#[c]}) by simp only[oJ,hi,Y6]),.b 0 (show ag Cm.notin (str {cps:=#[c]}) dc=some true by simp only[zB,hL,Y6,Bool.not_false])] rfl
 .cases q2:cP x<;>have ho:=q2▸ho
  .by_cases q3:x=fc
   .exact Er (Y0 q3) (aJ [.b 4 (show ag Cm.le (int (1:Int)) (int (↑x.cps.size:Int))=some true by simp only[iu,g1,YX]),.b 1 (show ag Cm.le (int (↑x.cps.size:Int)) (int (8:Int))=some true by simp only[iu,g8,YX]),.d 2 (show fU (str x) (int (0:Int))=some (str {cps:=#[c]}) by simp only[oJ,hi,Y6]),.b 0 (show ag Cm.notin (str {cps:=#[c]}) dc=some false by simp only[zB,hL,Y6,Bool.not_true]),.c 1 ho,.b 1 (show ag Cm.eq (str x) (str {cps:=#[(105:Nat),(102:Nat)]})=some true by simp only[fY,eq_true q3,YX])] rfl)
   .by_cases q4:x=aK
    .rw[Y1 q3];exact Er (Y0 q4) (aJ [.b 4 (show ag Cm.le (int (1:Int)) (int (↑x.cps.size:Int))=some true by simp only[iu,g1,YX]),.b 1 (show ag Cm.le (int (↑x.cps.size:Int)) (int (8:Int))=some true by simp only[iu,g8,YX]),.d 2 (show fU (str x) (int (0:Int))=some (str {cps:=#[c]}) by simp only[oJ,hi,Y6]),.b 0 (show ag Cm.notin (str {cps:=#[c]}) dc=some false by simp only[zB,hL,Y6,Bool.not_true]),.c 1 ho,.b 1 (show ag Cm.eq (str x) (str {cps:=#[(105:Nat),(102:Nat)]})=some false by simp only[fY,q3,YY]),.b 1 (show ag Cm.eq (str x) (str {cps:=#[(114:Nat),(101:Nat),(102:Nat),(117:Nat),(115:Nat),(101:Nat)]})=some true by simp only[fY,eq_true q4,YX])] rfl)
    .rw[Y1 q3];exact Er (Y1 q4) (aJ [.b 4 (show ag Cm.le (int (1:Int)) (int (↑x.cps.size:Int))=some true by simp only[iu,g1,YX]),.b 1 (show ag Cm.le (int (↑x.cps.size:Int)) (int (8:Int))=some true by simp only[iu,g8,YX]),.d 2 (show fU (str x) (int (0:Int))=some (str {cps:=#[c]}) by simp only[oJ,hi,Y6]),.b 0 (show ag Cm.notin (str {cps:=#[c]}) dc=some false by simp only[zB,hL,Y6,Bool.not_true]),.c 1 ho,.b 1 (show ag Cm.eq (str x) (str {cps:=#[(105:Nat),(102:Nat)]})=some false by simp only[fY,q3,YY]),.b 1 (show ag Cm.eq (str x) (str {cps:=#[(114:Nat),(101:Nat),(102:Nat),(117:Nat),(115:Nat),(101:Nat)]})=some false by simp only[fY,q4,YY]),.cp 2 (lp Slot.no),.v 0 (show dD Bi.all [list (List.map (λ(c:Nat)=>PyData.bool (gz c)) x.cps.toList)]=some (Rv.fz (PyData.bool (x.cps.toList.all gz))) by simp only[qO,(gT gz x.cps.toList),Y6])] rfl)
  .exact aJ [.b 4 (show ag Cm.le (int (1:Int)) (int (↑x.cps.size:Int))=some true by simp only[iu,g1,YX]),.b 1 (show ag Cm.le (int (↑x.cps.size:Int)) (int (8:Int))=some true by simp only[iu,g8,YX]),.d 2 (show fU (str x) (int (0:Int))=some (str {cps:=#[c]}) by simp only[oJ,hi,Y6]),.b 0 (show ag Cm.notin (str {cps:=#[c]}) dc=some false by simp only[zB,hL,Y6,Bool.not_true]),.c 1 ho] rfl
theorem strs_map (l:List Str):dG (l.map .str)=some l:=by
 induction l with
 |nil=>rfl
 |cons x l ih=>show(dG (l.map .str)).map (x :: ·)=_;refine Er ih ?_;rfl
noncomputable def bM (l:List Str):Bool:=l.all aH&&decide (ax l.reverse=l.length)
theorem rK (n:Nat) (x:Slot):∀(l:List Str) (s1:Slot),aZ ⟨P.glob,cF P (n+2),[],false⟩ [x,s1] (.call 4 [aa 1]) (.one 1) [] (l.map .str)=some (.ok (l.map λc=>.bool (aH c)),[x,.no]):=by
 intro cs
 induction cs with
 |nil=>exact @λs1=>by refine Er Zr ?_;rw[bc];rfl
 |cons c cs ih=>
  intro s1;exact Er Zt (Er Zt (mq [.c 0 ((rX n c)),.cp 0 ((ih (.fz (.str c))))] rfl))
theorem pO (h:l.length<=1000):hJ (l.map .str)=some (.fz (.int (ax l.reverse:Nat))):=by
 unfold hJ;rw[strs_map];exact YV h
theorem jg (n:Nat) (l:List Str) (hl:l.length<=1000) (d:D) (hd:d = .list (l.map .str)\/d = .tuple (l.map .str)):cF P (n+3) false 5 [.fz d]=some (.ok (.fz (.bool (bM l))),[]):=by
 have lp:=λs1=>rK n (.fz d) l s1
 have al:=gT aH l;have e:decide (((ax l.reverse:Nat):Int)=((l.map str).length:Int))=decide (ax l.reverse=l.length):=by
  rw[ZB]
  by_cases q:ax l.reverse=l.length
  .refine Er q (Er (Y0 rfl) ?_);simp
  .refine Er (Y1 q) ?_;simpa using λz=>q (by exact(Le [ax l.reverse,l.length] (.e .x .y) [Gr (.n .x) (.n .y)] rfl z))
 unfold bM;cases q:l.all aH<;>rw[q]at al<;>rcases hd with rfl|rfl<;>(first|exact aJ [.cp 1 (lp Slot.no),.v 0 (show dD Bi.all [list (List.map (λ(c:Str)=>PyData.bool (aH c)) l)]=some (Rv.fz (PyData.bool false)) by simp only[qO,al,Y6])] rfl (by kernel_rfl!)|exact aJ [.cp 1 (lp Slot.no),.v 0 (show dD Bi.all [list (List.map (λ(c:Str)=>PyData.bool (aH c)) l)]=some (Rv.fz (PyData.bool true)) by simp only[qO,al,Y6]),.v 1 ((pO hl)),.b 1 (show ag Cm.eq (int (↑(ax l.reverse):Int)) (int (↑(List.map str l).length:Int))=some (decide (ax l.reverse=l.length)) by simp only[dY,e])] rfl (by kernel_rfl!))
inductive T where
 |val (d:D)|nam (x:Str)|ref (x:Str)|iff (ps:List T)|doo (op:Str) (ps:List T)|call (f:Str) (ps:List T)|odd (b:Bool)
mutual
noncomputable def cM:T->D
 |.val d=>.tuple [.str be,d]
 |.nam x=>.tuple [.str bX,.str x]
 |.ref x=>.tuple [.str aK,.str x]
 |.iff ps=>.tuple (.str fc::bj ps)
 |.doo op ps=>.tuple [.str gI,.str op,.tuple (bj ps)]
 |.call f ps=>.tuple [.str bY,.str f,.tuple (bj ps)]
 |.odd true=>.tuple [.str be,.int 1,.int 1]
 |.odd false=>.tuple [.str ⟨[115,116,111,112].toArray⟩,.int 1]
noncomputable def bj:List T->List D
 |[]=>[]
 |t::ts=>cM t::bj ts
end
theorem gP (ts:List T):bj ts=ts.map cM:=by
 induction ts with
 |nil=>rfl
 |cons t ts ih=>show cM t::bj ts=_;refine Er ih ?_;rfl
mutual
noncomputable def fG:T->Nat
 |.val d=>dep d
 |.iff ps=>eh ps
 |.doo _ ps=>eh ps
 |.call _ ps=>eh ps
 |_=>0
noncomputable def eh:List T->Nat
 |[]=>0
 |t::ts=>max (fG t) (eh ts)
end
noncomputable def cnt (cs:List (Str×Nat)) (f:Str):Option Nat:=(cs.find? λp=>decide (p.1=f)).map (·.2)
noncomputable abbrev lz (cs:List (Str×Nat)):D:=.dict (cs.map λp=>(.str p.1,.int p.2))
noncomputable abbrev jE (l:List Str):D:=.tuple (l.map .str)
theorem lC (f:Str):∀cs:List (Str×Nat),b5 (cs.map λp=>(str p.1,int p.2)) f=(cnt cs f).map λ(n:Nat)=>.int n:=by
 intro cs
 induction cs with
 |nil=>exact rfl
 |cons p cs ih=>
  show(if p.1=f then some (int p.2) else b5 _ f)=_
  unfold cnt;refine Er (find?_cons) ?_
  by_cases q:p.1=f
  .refine Er (YV q) (Er (Y0 q) ?_);rfl
  .exact Er (YW q) (Er (Y1 q) ih)
noncomputable def dJ (ns:List Str) (cs:List (Str×Nat)):Nat->T->Bool
 |0,_=>false
 |r+1,t=>match t with
  |.val d=>good d&&decide (wt d<=50)
  |.nam x=>cu x ns
  |.ref x=>cu x eQ
  |.iff ps=>decide (ps.length=3)&&ps.all (dJ ns cs r)
  |.doo op ps=>cP op&&(br op ps.length&&ps.all (dJ ns cs r))
  |.call f ps=>decide (cnt cs f=some ps.length)&&ps.all (dJ ns cs r)
  |.odd _=>false
theorem wy (n:Nat) (d:D) (ns:D) (h:dep d<n):cF P (n+2) false 6 [.fz (cM (.val d)),.fz ns]=some (.ok (.fz (.bool (good d&&decide (wt d<=50)))),[]):=by
 rw[cM];exact aJ [.c 7 ((pS n d h))] rfl
theorem wD (n:Nat) (x:Str) (l:List Str):cF P (n+1) false 6 [.fz (cM (.nam x)),.fz (jE l)]=some (.ok (.fz (.bool (cu x l))),[]):=by
 have hq:(bX=be)=False:=by simp
 rw[cM];exact aJ [.b 10 ((f9 x l))] rfl
theorem wz (n:Nat) (x:Str) (ns:D):cF P (n+1) false 6 [.fz (cM (.ref x)),.fz ns]=some (.ok (.fz (.bool (cu x eQ))),[]):=by
 have hq:(aK=be)=False:=by simp
 have hr:(aK=bX)=False:=by simp
 rw[cM];exact aJ [.b 10 ((KT x))] rfl
theorem wA (n:Nat) (ns:D):cF P (n+1) false 6 [.fz (cM (.odd true)),.fz ns]=some (.ok (.fz (.bool false)),[]):=by kernel_rfl
theorem vW (n k:Nat) (h:k<=n):b3 n (k:Int)=k:=by
 unfold b3 clipAt;refine Er (YW (Int.not_lt.mpr (ZS k))) ?_;refine Er (Int.min_eq_left (ofNat_le.mpr h)) ?_;rw[Int.max_eq_right (ZS k),ZR]
theorem zq (d:D) (ds:List D):cB (d::ds) (b3 (d::ds).length 1) (d::ds).length=ds:=by
 refine Er (vW _ 1 (succ_le_succ (Y8 _))) ?_;unfold cB;simp
theorem ky (d:D) (ds:List D):eS (.tuple (d::ds)) (.int 1) .none=some (.fz (.tuple ds)):=by
 show some (Rv.fz (.tuple (cB (d::ds) (b3 (d::ds).length 1) (d::ds).length)))=_
 rw[zq]
theorem uT (n:Nat) (ds:List D) (c:D):cF P (n+1) false 7 [.fz (.tuple (.str fc::ds)),.fz c]=if ds.length=3 then some (.ok (.own (.list ds)),[]) else some (.ok (.fz .none),[]):=by
 have hl:(((str fc::ds).length:Int)==4)=decide (ds.length=3):=by
  refine Er ZD ?_
  by_cases q:ds.length=3
  .refine Er q ?_;rfl
  .refine Er (Y1 q) ?_;simpa using λz=>q (by exact(Le [ds.length] (.e .x (.c 3)) [Gr (.p 1 (.n .x)) (.c 4)] rfl z))
 by_cases q:ds.length=3
 .refine Er (YV q) ?_
  rw[Y0 q]at hl;exact aJ [.b 4 (show ag Cm.eq (int (↑(str fc::ds).length:Int)) (int (4:Int))=some true by simp only[er,cm,hl]),.v 1 ((ky (.str fc) ds))] rfl
 .refine Er (YW q) ?_
  rw[Y1 q]at hl;exact aJ [.b 4 (show ag Cm.eq (int (↑(str fc::ds).length:Int)) (int (4:Int))=some false by simp only[er,cm,hl])] rfl
theorem CC (x:Str):n5 (.str x) (.tuple [.str gI,.str bY])=some (cu x [gI,bY]):=f9 x [gI,bY]
theorem KO:cu gI [gI,bY]=true:=by kernel_rfl
theorem En:cu bY [gI,bY]=true:=by kernel_rfl
theorem xd (n:Nat) (op:Str) (ds:List D) (c:D):cF P (n+2) false 7 [.fz (.tuple [.str gI,.str op,.tuple ds]),.fz c]=if (cP op&&br op ds.length)=true then some (.ok (.own (.list ds)),[]) else some (.ok (.fz .none),[]):=by
 have h1:=kY n op;have h2:=wG n op ds.length;have hq:(gI=fc)=False:=by simp
 have hi:=(CC gI).trans (Y2 some KO);cases q1:cP op<;>rw[q1]at h1<;>cases q2:br op ds.length<;>rw[q2]at h2<;>simp only[Bool.and_true,Z3,Bool.and_false,Bool.false_and,if_true,if_false,false_eq_true]<;>(first|exact aJ [.c 18 h1] rfl (by kernel_rfl!)|exact aJ [.c 18 h1,.c 2 h2] rfl (by kernel_rfl!))
theorem E3 (o:Option Nat) (m:Nat):mP ((o.map λ(n:Nat)=>int n).getD .none) (.int m)=some (decide (o=some m)):=by
 cases o with
 |none=>rw[Y1 (by simp)];rfl
 |some k=>
  show some ((k:Int)==(m:Int))=_
  congr 1
  by_cases q:k=m
  .subst q;simp
  .rw[Y1 (by simpa using q)];simpa using λz=>q (by exact(Le [k,m] (.e .x .y) [Gr (.n .x) (.n .y)] rfl z))
theorem rB (n:Nat) (f:Str) (ds:List D) (cs:List (Str×Nat)):cF P (n+1) false 7 [.fz (.tuple [.str bY,.str f,.tuple ds]),.fz (lz cs)]=if cnt cs f=some ds.length then some (.ok (.own (.list ds)),[]) else some (.ok (.fz .none),[]):=by
 have h2:=E3 (cnt cs f) ds.length;have hq:(bY=fc)=False:=by simp
 have hr:(bY=gI)=False:=by simp
 have hi:=(CC bY).trans (Y2 some En)
 by_cases q:cnt cs f=some ds.length
 .refine Er (YV q) ?_;rw[Y0 q]at h2
  exact aJ [.b 22 (show ag Cm.eq ((b5 (List.map (λ(p:Str×Nat)=>(str p.fst,int (↑p.snd:Int))) cs) f).getD PyData.none) (int (↑ds.length:Int))=some true by simp only[(lC f cs),er,h2])] rfl
 .refine Er (YW q) ?_;rw[Y1 q]at h2
  exact aJ [.b 22 (show ag Cm.eq ((b5 (List.map (λ(p:Str×Nat)=>(str p.fst,int (↑p.snd:Int))) cs) f).getD PyData.none) (int (↑ds.length:Int))=some false by simp only[(lC f cs),er,h2])] rfl
theorem zK (m:Nat) (t r:D) (ns c l:D) (cs:List (Str×Nat)) (nn:List Str) (k:Nat):∀(ts:List T) (s5:Slot),(∀u∈ts,cF P m false 8 [.fz (cM u),.fz (.int (((k+1:Nat):Int)-1)),.fz ns,.fz c]=some (.ok (.fz (.bool (dJ nn cs k u))),[]))->
  aZ ⟨P.glob,cF P m,[],false⟩ [.fz t,.fz (.int ((k+1:Nat):Int)),.fz ns,.fz c,.fz l,s5] (.call 8 [aa 5,.op2 .sub (aa 1) (ai 1),aa 2,aa 3]) (.one 5) [] (bj ts)=some (.ok (ts.map λu=>.bool (dJ nn cs k u)),[.fz t,.fz (.int ((k+1:Nat):Int)),.fz ns,.fz c,.fz l,.no]):=by
 intro ts
 induction ts with
 |nil=>exact @λs5 ac=>by rw[bj,bc];rfl
 |cons u ts ih=>
  intro s5 h;rw[bj];exact Er Zt (mq [.c 1 ((h u Zn)),.cp 0 ((ih (.fz (cM u)) (hG h)))] rfl)
theorem rY (x:Str):n5 (.str x) (.tuple [.str be,.str bX,.str aK])=some (cu x [be,bX,aK]):=f9 x [be,bX,aK]
theorem JS (k:Nat):((((k+1:Nat):Int))==0)=false:=by
 have:¬(((k+1:Nat):Int)=0):=by exact(λKN=>(Lf [k] [Gj (.n (.p 1 .x)) (.c 0)] rfl KN))
 simpa using this
theorem MI:cu be [be,bX,aK]=true:=by kernel_rfl
theorem NX:cu bX [be,bX,aK]=true:=by kernel_rfl
theorem NW:cu aK [be,bX,aK]=true:=by kernel_rfl
theorem MJ:cu fc [be,bX,aK]=false:=by kernel_rfl
theorem MK:cu gI [be,bX,aK]=false:=by kernel_rfl
theorem ML:cu bY [be,bX,aK]=false:=by kernel_rfl
theorem KP (a:D) (l:List D):((((a::l).length:Nat):Int)==0)=false:=by
 have:¬(((a::l).length:Int)=0):=by exact Er ZD (λjz=>(Lf [l.length] [Gj (.n (.p 1 .x)) (.c 0)] rfl jz))
 simpa using this
theorem ic (n k:Nat) (x:Str) (l:List D) (ns c:D) (b:Bool) (hm:cu x [be,bX,aK]=true) (h:cF P n false 6 [.fz (.tuple (.str x::l)),.fz ns]=some (.ok (.fz (.bool b)),[])):
  cF P (n+1) false 8 [.fz (.tuple (.str x::l)),.fz (.int ((k+1:Nat):Int)),.fz ns,.fz c]=some (.ok (.fz (.bool b)),[]):=by
 have h0:=JS k;have hl:=KP (.str x) l;exact aJ [.b 9 (((rY x).trans (Y2 some hm))),.c 1 h] rfl
theorem ie (n k:Nat) (x:Str) (l:List D) (ns c:D) (hm:cu x [be,bX,aK]=false) (h:cF P n false 7 [.fz (.tuple (.str x::l)),.fz c]=some (.ok (.fz .none),[])):
  cF P (n+1) false 8 [.fz (.tuple (.str x::l)),.fz (.int ((k+1:Nat):Int)),.fz ns,.fz c]=some (.ok (.fz (.bool false)),[]):=by
 have h0:=JS k;have hl:=KP (.str x) l;exact aJ [.b 9 (((rY x).trans (Y2 some hm))),.c 1 h] rfl
theorem iP (n k:Nat) (x:Str) (l:List D) (ns c:D) (nn:List Str) (cs:List (Str×Nat)) (ts:List T) (hm:cu x [be,bX,aK]=false) (h:cF P n false 7 [.fz (.tuple (.str x::l)),.fz c]=some (.ok (.own (.list (bj ts))),[]))
  (ih:∀u∈ts,cF P n false 8 [.fz (cM u),.fz (.int (((k+1:Nat):Int)-1)),.fz ns,.fz c]=some (.ok (.fz (.bool (dJ nn cs k u))),[])):
  cF P (n+1) false 8 [.fz (.tuple (.str x::l)),.fz (.int ((k+1:Nat):Int)),.fz ns,.fz c]=some (.ok (.fz (.bool (ts.all (dJ nn cs k)))),[]):=by
 have h0:=JS k;have hl:=KP (.str x) l;have lp:=λt s5=>zK n t .none ns c (.list (bj ts)) cs nn k ts s5 ih
 have al:=gT (dJ nn cs k) ts;exact aJ [.b 9 (((rY x).trans (Y2 some hm))),.c 1 h,.cp 3 (lp (tuple (str x::l)) Slot.no),.v 0 (show dD Bi.all [list (List.map (λ(u:T)=>PyData.bool (dJ nn cs k u)) ts)]=some (Rv.fz (PyData.bool (ts.all (dJ nn cs k)))) by simp only[qO,al,Y6])] rfl
theorem fX (ts:List T):(bj ts).length=ts.length:=by rw[gP,ZB]
theorem lA {ts:List T} {u:T} (h:u∈ts):fG u<=eh ts:=by
 induction ts with
 |nil=>cases h
 |cons t ts ih=>
  rcases mem_cons.mp h with rfl|h
  .exact le_max_left _ _
  .exact Zf (ih h) (le_max_right _ _)
noncomputable abbrev JW (b:Bool):Option (Except Str Rv×List Mv.Slot):=some (.ok (.fz (.bool b)),[])
theorem k6 (nn:List Str) (cs:List (Str×Nat)):∀(k n:Nat) (t:T),fG t<n->cF P (n+3+k) false 8 [.fz (cM t),.fz (.int (k:Nat)),.fz (jE nn),.fz (lz cs)]=some (.ok (.fz (.bool (dJ nn cs k t))),[]):=by
 intro k
 induction k with
 |zero=>
  intro n t h;have e:(((0:Nat):Int)==0)=true:=rfl;exact aJ [] rfl
 |succ k IH=>
  intro n t h;have ih:∀u,fG u<n->cF P (n+3+k) false 8 [.fz (cM u),.fz (.int (((k+1:Nat):Int)-1)),.fz (jE nn),.fz (lz cs)]=some (.ok (.fz (.bool (dJ nn cs k u))),[]):=λu hu=>by
   exact Er (show(((k+1:Nat):Int)-1)=((k:Nat):Int) from by exact(Le [k] (.j (.s (.n (.p 1 .x)) (.c 1)) (.n .x)) [] rfl)) (IH n u hu)
  cases t with
  |val d=>exact ic (n+3+k) k be [d] _ _ _ MI (by have:=wy (n+1+k) d (jE nn) (by have h:dep d<n:=h;exact(L1 [dep d,n,k] (.p 1 .x) (.a (.p 1 .y) .z) (.p 1 .x) .y rfl h));rw[show n+1+k+2=n+3+k from by exact(Le [n,k] (.e (.p 2 (.a (.p 1 .x) .y)) (.a (.p 3 .x) .y)) [] rfl)]at this;exact this)
  |nam x=>exact ic (n+3+k) k bX [.str x] _ _ _ NX (by have:=wD (n+2+k) x nn;rw[show n+2+k+1=n+3+k from by exact(Le [n,k] (.e (.p 1 (.a (.p 2 .x) .y)) (.a (.p 3 .x) .y)) [] rfl)]at this;exact this)
  |ref x=>exact ic (n+3+k) k aK [.str x] _ _ _ NW (by have:=wz (n+2+k) x (jE nn);rw[show n+2+k+1=n+3+k from by exact(Le [n,k] (.e (.p 1 (.a (.p 2 .x) .y)) (.a (.p 3 .x) .y)) [] rfl)]at this;exact this)
  |odd b=>
   cases b with
   |true=>exact ic (n+3+k) k be [.int 1,.int 1] _ _ _ MI (by have:=wA (n+2+k) (jE nn);rw[show n+2+k+1=n+3+k from by exact(Le [n,k] (.e (.p 1 (.a (.p 2 .x) .y)) (.a (.p 3 .x) .y)) [] rfl)]at this;exact this)
   |false=>exact ie (n+3+k) k ⟨[115,116,111,112].toArray⟩ [.int 1] _ _ (by kernel_rfl) (by refine Er (show n+3+k=n+2+k+1 from by exact(Le [n,k] (.e (.a (.p 3 .x) .y) (.p 1 (.a (.p 2 .x) .y))) [] rfl)) ?_;kernel_rfl)
  |iff ps=>
   have hp:=uT (n+2+k) (bj ps) (lz cs);rw[show n+2+k+1=n+3+k from by exact(Le [n,k] (.e (.p 1 (.a (.p 2 .x) .y)) (.a (.p 3 .x) .y)) [] rfl),fX]at hp;show _=JW (decide (ps.length=3)&&ps.all (dJ nn cs k))
   by_cases q:ps.length=3
   .rw[YV q]at hp;rw[Y0 q,Z3]
    exact iP (n+3+k) k fc _ _ _ nn cs ps MJ hp λu hu=>ih u (lt_of_le_of_lt (lA hu) h)
   .rw[YW q]at hp;rw[Y1 q,Bool.false_and]
    exact ie (n+3+k) k fc _ _ _ MJ hp
  |doo op ps=>
   have hp:=xd (n+1+k) op (bj ps) (lz cs);rw[show n+1+k+2=n+3+k from by exact(Le [n,k] (.e (.p 2 (.a (.p 1 .x) .y)) (.a (.p 3 .x) .y)) [] rfl),fX]at hp;show _=JW (cP op&&(br op ps.length&&ps.all (dJ nn cs k)))
   rw[<- Bool.and_assoc];cases q:cP op&&br op ps.length with
   |true=>
    rw[q,YV rfl]at hp;rw[Z3];exact iP (n+3+k) k gI _ _ _ nn cs ps MK hp λu hu=>ih u (lt_of_le_of_lt (lA hu) h)
   |false=>
    rw[q,YW Z6]at hp;rw[Bool.false_and];exact ie (n+3+k) k gI _ _ _ MK hp
  |call f ps=>
   have hp:=rB (n+2+k) f (bj ps) cs;rw[show n+2+k+1=n+3+k from by exact(Le [n,k] (.e (.p 1 (.a (.p 2 .x) .y)) (.a (.p 3 .x) .y)) [] rfl),fX]at hp;show _=JW (decide (cnt cs f=some ps.length)&&ps.all (dJ nn cs k))
   by_cases q:cnt cs f=some ps.length
   .rw[YV q]at hp;rw[Y0 q,Z3]
    exact iP (n+3+k) k bY _ _ _ nn cs ps ML hp λu hu=>ih u (lt_of_le_of_lt (lA hu) h)
   .rw[YW q]at hp;rw[Y1 q,Bool.false_and]
    exact ie (n+3+k) k bY _ _ _ ML hp
noncomputable abbrev Fun:=Str×List Str×T
noncomputable abbrev cX (f:Fun):D:=.tuple [.str f.1,jE f.2.1,cM f.2.2]
noncomputable abbrev dy (p:List Fun):D:=.tuple (p.map cX)
noncomputable abbrev ct (f:Fun):Str×Nat:=(f.1,f.2.1.length)
noncomputable def rI (f:Fun):Bool:=decide (f.2.1.length<=6)&&bM f.2.1
noncomputable def dK (p:List Fun):Bool:=!p.isEmpty&&(bM (p.map (·.1))&&(p.all rI&&p.all λf=>dJ f.2.1 (p.map ct) 20 f.2.2))
noncomputable abbrev CM:List St:=[.iff (.or [.cmp .gt (.bi .len [(.idx (aa 2) (ai 1))]) (.gl 10),.not (.call 5 [(.idx (aa 2) (ai 1))])]) [.ret (.lit (.bool false))] [],
   .setI (.var 1) (.idx (aa 2) (ai 0)) (.bi .len [.idx (aa 2) (ai 1)])]
theorem rM (n:Nat) (a b c d:Slot):∀(p:List Fun) (s3:Slot),aZ ⟨P.glob,cF P n,[],false⟩ [a,b,c,s3,d] (.idx (aa 3) (ai 0)) (.one 3) [] (p.map cX)=some (.ok ((p.map (·.1)).map .str),[a,b,c,.no,d]):=by
 intro p
 induction p with
 |nil=>exact @λs3=>by refine Er Zr ?_;rw[bc];rfl
 |cons f p ih=>
  intro s3;exact Er Zt (mq [.cp 1 ((ih (.fz (cX f))))] rfl)
theorem qC (x:Str) (m:Nat) (cs:List (Str×Nat)) (h:x∉cs.map (·.1)):i8 (cs.map λp=>(str p.1,int p.2)) x (.int m)=(cs++[(x,m)]).map λp=>(str p.1,int p.2):=by
 unfold i8;have e:cnt cs x=none:=by
  unfold cnt;refine Er (List.find?_eq_none.mpr λp hp q=>h (mem_map.mpr ⟨p,hp,YU q⟩)) ?_;rfl
 rw[lC];refine Er e ?_;refine Er Zu ?_;rfl
theorem vj (n:Nat) (pr s3 s4:Slot):∀(rest done:List Fun) (s2:Slot),((done++rest).map (·.1)).Nodup->(done++rest).length<=1000->
  (rest.all rI=true->dL ⟨P.glob,cF P (n+3),[],false⟩ [pr,.own (lz (done.map ct)),s2,s3,s4] (.one 2) CM [2] (rest.map cX)=some (.ok .next,[pr,.own (lz ((done++rest).map ct)),.no,s3,s4]))/\
  (rest.all rI=false-> ∃fr,dL ⟨P.glob,cF P (n+3),[],false⟩ [pr,.own (lz (done.map ct)),s2,s3,s4] (.one 2) CM [2] (rest.map cX)=some (.ok (.ret (.fz (.bool false))),fr)):=by
 intro rest
 induction rest with
 |nil=>exact @λdone s2 ac az=>⟨λac=>by refine Er Zr ?_;rw[cQ,ZL];rfl,λh=>by cases h⟩
 |cons f rest IH=>
  intro done s2 nd hz;have hn:f.1∉(done.map ct).map (·.1):=by
   rw[Zu,List.nodup_append]at nd;intro hm;rw[Zs]at hm;exact nd.2.2 f.1 hm f.1 (mem_map.mpr ⟨f,Zn,rfl⟩) rfl
  have hsz:(List.map (λp:Str×Nat=>(str p.1,int p.2)) (done.map ct)).length<Sz:=by
   rw[ZB,ZB];rw[ZE]at hz;show done.length<16777216;exact(L1 [done.length,rest.length] (.p 1 .x) (.c 16777216) (.a .x (.p 1 .y)) (.c 1000) rfl hz)
  have e1:done++f::rest=(done++[f])++rest:=by rw[ZM];rfl
  have ih:=IH (done++[f]) (.fz (cX f)) (by refine Er e1.symm ?_;exact nd) (by refine Er e1.symm ?_;exact hz);rw[<- e1]at ih;have e2:(done++[f]).map ct=done.map ct++[ct f]:=by refine Er Zu ?_;rfl
  rw[e2]at ih;have lm:(((f.2.1.map str).length:Int))=(f.2.1.length:Int):=by rw[ZB]
  by_cases q6:f.2.1.length<=6
  .have ha:=jg n f.2.1 (Zf q6 (by decide)) (jE f.2.1) (.inr rfl)
   cases q:bM f.2.1 with
   |true=>
    have eo:rI f=true:=by unfold rI;refine Er (Y0 q6) (Er q ?_);rfl
    have ha:=q▸ha;refine Er ZO ?_;refine Er eo ?_;rw[Z3];have h6:¬((6:Int)<(f.2.1.length:Int)):=by exact(λxO=>(Lf [f.snd.fst.length] [Gl .x (.c 6),Gi (.p 1 (.c 6)) (.n .x)] rfl q6 xO))
    refine⟨λh=>?_,λh=>?_⟩
    .have q:=ih.1 h
     exact mn [.b 2 (show ag Cm.gt (int (↑(List.map str f.snd.fst).length:Int)) (int (6:Int))=some false by simp only[lm,gh,h6,YY]),.c 2 ha,.d 5 (show ro (dict (List.map (λ(p:Str×Nat)=>(str p.fst,int (↑p.snd:Int))) (List.map ct done))) (str f.fst) (int (↑(List.map str f.snd.fst).length:Int))=some (dict (List.map (λ(p:Str×Nat)=>(str p.fst,int (↑p.snd:Int))) (List.map ct done++[(f.fst,f.snd.fst.length)]))) by simp only[lm,wS,hsz,(qC f.1 f.2.1.length (done.map ct) hn),if_true]),.lp 0 q] rfl
    .exact aQ (ih.2 h) λfr q=>(⟨fr,by exact mn [.b 2 (show ag Cm.gt (int (↑(List.map str f.snd.fst).length:Int)) (int (6:Int))=some false by simp only[lm,gh,h6,YY]),.c 2 ha,.d 5 (show ro (dict (List.map (λ(p:Str×Nat)=>(str p.fst,int (↑p.snd:Int))) (List.map ct done))) (str f.fst) (int (↑(List.map str f.snd.fst).length:Int))=some (dict (List.map (λ(p:Str×Nat)=>(str p.fst,int (↑p.snd:Int))) (List.map ct done++[(f.fst,f.snd.fst.length)]))) by simp only[lm,wS,hsz,(qC f.1 f.2.1.length (done.map ct) hn),if_true]),.lp 0 q] rfl⟩)
   |false=>
    have eo:rI f=false:=by unfold rI;refine Er q ?_;rw[Bool.and_false]
    rw[q]at ha;refine⟨λh=>(by rw[ZO]at h;have h:=eo▸h;cases h),λac=>?_⟩;have h6:¬((6:Int)<(f.2.1.length:Int)):=by exact(λpH=>(Lf [f.snd.fst.length] [Gl .x (.c 6),Gi (.p 1 (.c 6)) (.n .x)] rfl q6 pH))
    exact⟨[pr,Slot.own (dict (List.map (λ(p:Str×Nat)=>(str p.fst,int (↑p.snd:Int))) (List.map ct done))),Slot.fz (tuple [str f.fst,tuple (List.map str f.snd.fst),cM f.snd.snd]),s3,s4],mn [.b 2 (show ag Cm.gt (int (↑(List.map str f.snd.fst).length:Int)) (int (6:Int))=some false by simp only[lm,gh,h6,YY]),.c 2 ha] rfl⟩
  .have eo:rI f=false:=by unfold rI;refine Er (Y1 q6) ?_;rfl
   refine⟨λh=>(by have h:=ZO▸h;have h:=eo▸h;cases h),λac=>?_⟩;have h6:((6:Int)<(f.2.1.length:Int)):=by exact(Ln [f.snd.fst.length] (.i (.p 1 (.c 6)) (.n .x)) [Gl (.p 1 (.c 6)) .x] rfl (Nat.not_le.mp q6))
   exact⟨[pr,Slot.own (dict (List.map (λ(p:Str×Nat)=>(str p.fst,int (↑p.snd:Int))) (List.map ct done))),Slot.fz (tuple [str f.fst,tuple (List.map str f.snd.fst),cM f.snd.snd]),s3,s4],mn [.b 2 (show ag Cm.gt (int (↑(List.map str f.snd.fst).length:Int)) (int (6:Int))=some true by simp only[lm,gh,h6,YX])] rfl⟩
theorem r8 (n:Nat) (cs:List (Str×Nat)) (pr s2 s3:Slot):∀(fs:List Fun) (sC s4:Slot),(sC = .own (lz cs)\/sC = .fz (lz cs))->(∀f∈fs,fG f.2.2<n)->
  ∃fr,aZ ⟨P.glob,cF P (n+23),[],false⟩ [pr,sC,s2,s3,s4] (.call 8 [.idx (aa 4) (ai 2),.gl 9,.idx (aa 4) (ai 1),aa 1]) (.one 4) [] (fs.map cX)=some (.ok (fs.map λf=>.bool (dJ f.2.1 cs 20 f.2.2)),fr):=by
 intro fs
 induction fs with
 |nil=>exact @λsC s4 ac az=>⟨_,by rw[Zr,bc];rfl⟩
 |cons f fs IH=>
  intro sC s4 hC hd;refine aQ (IH (.fz (lz cs)) (.fz (cX f)) (.inr rfl) (hG hd)) λfr ih=>?_
  refine⟨fr,?_⟩;refine Er Zt ?_
  rcases hC with rfl|rfl
  .exact mq [.c 2 ((k6 f.2.1 cs 20 n f.2.2 (hd f Zn))),.cp 0 ih] rfl
  .exact mq [.c 2 ((k6 f.2.1 cs 20 n f.2.2 (hd f Zn))),.cp 0 ih] rfl
theorem xz:l.reverse.Nodup↔l.Nodup:=by
 unfold List.Nodup;rw[List.pairwise_reverse];exact⟨λh=>h.imp λq e=>q e.symm,λh=>h.imp λq e=>q e.symm⟩
set_option tactic.hygienic true in
theorem iM (h:ax l.reverse=l.length):l.Nodup:=by
 suffices H:∀l:List Str,ax l=l.length->l.Nodup by
  have:=H l.reverse (by refine Er List.length_reverse ?_;exact h);exact(xz.mp this)
 intro l
 induction l with
 |nil=>intro _;exact List.nodup_nil
 |cons x l ih=>
  intro h;have wb:ax l<=l.length:=by
   clear ih h
   induction l with
   |nil=>exact Zg _
   |cons y l ih=>show(if l.contains y then ax l else ax l+1)<=l.length+1;split<;>(first|exact(L1 [ax l,l.length] .x (.p 1 .y) .x .y rfl ih)|exact(L1 [ax l,l.length] (.p 1 .x) (.p 1 .y) .x .y rfl ih))
  have h:(if l.contains x then ax l else ax l+1)=l.length+1:=h
  split at h
  .exact(False.elim (Lf [ax l,l.length] [Gl .x .y,Gf .x (.p 1 .y)] rfl wb h))
  .rename_i q
   exact nodup_cons.mpr ⟨λm=>q (contains_iff_mem.mpr m),ih (Zi wb (Ln [l.length,ax l] (.w .x .y) [Gf (.p 1 .y) (.p 1 .x)] rfl h))⟩
theorem rJ (h:l.Nodup):ax l.reverse=l.length:=by
 suffices H:∀l:List Str,l.Nodup->ax l=l.length by
  have:=H l.reverse (xz.mpr h);rw[List.length_reverse]at this;exact this
 intro l
 induction l with
 |nil=>intro _;rfl
 |cons x l ih=>
  intro h;have Q:=nodup_cons.mp h;show(if l.contains x then ax l else ax l+1)=l.length+1
  exact Er (YW λq=>Q.1 (contains_iff_mem.mp q)) (Er (ih Q.2) rfl)
theorem kZ (n:Nat) (p:List Fun) (hp:∀f∈p,fG f.2.2<n) (hl:p.length<=1000):cF P (n+24) false 9 [.fz (dy p)]=some (.ok (.fz (.bool (dK p))),[]):=by
 have Lg:=λa b c d s3=>rM (n+23) a b c d p s3
 have ha:=jg (n+20) (p.map (·.1)) (by rw[ZB];exact hl) (.list ((p.map (·.1)).map .str)) (.inl rfl);unfold dK;cases p with
 |nil=>rfl
 |cons f0 p0=>
  generalize MY:f0::p0=p at *;have bH:((p.map cX).length:Int)=(p.length:Int):=by rw[ZB]
  have h0:((p.length:Int)==0)=false:=by(refine Er MY.symm ?_;have:¬(((f0::p0).length:Int)=0):=by exact Er ZD (λkP=>(Lf [p0.length] [Gj (.n (.p 1 .x)) (.c 0)] rfl kP)));simpa using this
  have he:p.isEmpty=false:=by refine Er MY.symm ?_;rfl
  refine Er he ?_;cases q:bM (p.map (·.1)) with
  |false=>
   rw[q]at ha;exact aJ [.b 1 (show ag Cm.eq (int (↑(List.map cX p).length:Int)) (int (0:Int))=some false by simp only[bH,er,cm,h0]),.cp 2 (Lg (Slot.fz (tuple (List.map cX p))) Slot.no Slot.no Slot.no Slot.no),.c 0 ha] rfl
  |true=>
   rw[q]at ha;have nd:((([]:List Fun)++p).map (·.1)).Nodup:=by
    unfold bM at q;rw[Z7,YZ]at q;exact iM q.2
   obtain⟨g1,g2⟩:=vj (n+20) (.fz (dy p)) .no .no p [] .no nd hl;rw[Zk]at g1;cases qa:p.all rI with
   |false=>
    refine aQ (g2 qa) λfr g2=>?_
    exact aJ [.b 1 (show ag Cm.eq (int (↑(List.map cX p).length:Int)) (int (0:Int))=some false by simp only[bH,er,cm,h0]),.cp 2 (Lg (Slot.fz (tuple (List.map cX p))) Slot.no Slot.no Slot.no Slot.no),.c 0 ha,.lp 4 g2] rfl
   |true=>
    exact aQ (r8 n (p.map ct) (.fz (dy p)) .no .no p _ .no (.inl rfl) hp) λfr gb=>(aJ [.b 1 (show ag Cm.eq (int (↑(List.map cX p).length:Int)) (int (0:Int))=some false by simp only[bH,er,cm,h0]),.cp 2 (Lg (Slot.fz (tuple (List.map cX p))) Slot.no Slot.no Slot.no Slot.no),.c 0 ha,.lp 4 ((g1 qa)),.cp 1 gb,.v 0 (show dD Bi.all [list (List.map (λ(f:Fun)=>PyData.bool (dJ f.snd.fst (List.map ct p) (20:Nat) f.snd.snd)) p)]=some (Rv.fz (PyData.bool (p.all λ(f:Fun)=>dJ f.snd.fst (List.map ct p) (20:Nat) f.snd.snd))) by simp only[qO,(gT (λf:Fun=>dJ f.2.1 (p.map ct) 20 f.2.2) p),Y6])] rfl)
theorem nM (n:Int) (xs:List α):(rep n xs).length=xs.length*n.toNat:=by
 unfold rep;refine Er List.length_flatten ?_;simp[Zb]
theorem fF (n:Nat) (p:Int):∃q:Int,cF P (n+1) false 22 [.fz (.int p)]=some (.ok (.fz (.int q)),[]):=by
 exact⟨((p*(48271:Int)+(11:Int)).fmod (2147483647:Int)*(p*(48271:Int)+(11:Int)).fmod (2147483647:Int)).fmod (2147483629:Int),aJ [.v 0 ((xT (a:=p) (b:=48271) (by decide))),.v 2 ((nU (a:=(p*48271+11).fmod 2147483647) (b:=(p*48271+11).fmod 2147483647) (d7 [((p*(48271:Int)+(11:Int)).fmod (2147483647:Int)).natAbs] [(p*(48271:Int)+(11:Int)).fmod (2147483647:Int)] 1 (.w (.p 1 .x) (.c 18446744073709551616)) [Gi (.p 1 .x) (.c 2147483647),Gj (.n .x) .x] rfl ((fm (p*48271+11) 2147483647 (by decide))).2 (Int.natAbs_of_nonneg (a:=(p*(48271:Int)+(11:Int)).fmod (2147483647:Int)) (((fm (p*48271+11) 2147483647 (by decide))).1)))))] rfl⟩
noncomputable abbrev ya:Str:=⟨[116,111,112].toArray⟩
structure ik (l:List Str):Prop where
 len:l.length=12
 nd:l.Nodup
 nm:∀x∈l,aH x=true
 zz:ya∉l
noncomputable def rL (l:List Str):Bool:=decide (l.length=12)&&(decide (ax l.reverse=l.length)&&(l.all aH && !cu ya l))
theorem u2 (h:rL l=true):ik l:=by
 unfold rL at h;simp only[Z7,YZ,ZN,Z5]at h;obtain⟨h1,h2,h⟩:=h;have h3:=h.1;have h4:=h.2;exact⟨h1,iM h2,h3,λm=>(by have h4:=(bk.mpr m)▸h4;cases h4)⟩
noncomputable abbrev oY:List Str:=[⟨[105,102,115].toArray⟩,⟨[108,105,115,116,120].toArray⟩,⟨[112,108,117,115,50].toArray⟩,⟨[114,101,102,117,115,101,115].toArray⟩,⟨[114,101,115,116,101,100].toArray⟩,⟨[100,111,119,110,115].toArray⟩,⟨[115,97,109,101,49].toArray⟩,⟨[106,111,105,110,115].toArray⟩,⟨[111,118,101,114,115].toArray⟩,⟨[102,105,114,115,116,115].toArray⟩,⟨[101,109,112,116,121,120].toArray⟩,⟨[97,57].toArray⟩]
noncomputable def JT (r:Nat):List Str:=(List.range 12).map λk=>oY.getD ((r+k) % 12) ⟨#[]⟩
theorem KC:((List.range 12).all λr=>rL (JT r))=true:=by kernel_rfl
theorem D2 (r:Nat) (h:r<12):ik (JT r):=u2 (all_eq_true.mp KC r (mem_range.mpr h))
theorem qi (a:Int) (k N:Nat) (h:0<N):(a+(0+(k:Int))).fmod N=((((a.fmod N).toNat+k) % N:Nat):Int):=by
 refine Er (Int.fmod_eq_emod_of_nonneg _ (ZS N)) ?_;refine Er (Int.fmod_eq_emod_of_nonneg _ (ZS N)) ?_;rw[ZP,Int.natCast_emod,natCast_add,ZQ (Int.emod_nonneg _ (Int.natCast_ne_zero.mpr (Nat.pos_iff_ne_zero.mp h))),Int.emod_add_emod]
theorem pd (n:Nat) (c:Int) (a1 a2 a3 a4 a5 a6:Slot) (hs:a1 = .own (.list (oY.map .str))\/a1 = .fz (.list (oY.map .str))):∀(ks:List Nat) (s7:Slot), ∃fr,aZ ⟨P.glob,cF P n,[],false⟩ [.fz (.int c),a1,a2,a3,a4,a5,a6,s7] (.idx (aa 1) (.op2 .mod (.op2 .add (.op2 .fdiv (aa 0) (ai 9)) (aa 7)) (ai 12))) (.one 7) [] (ks.map λ(k:Nat)=>.int (0+k))=some (.ok ((ks.map λk=>oY.getD ((((c.fdiv 9).fmod 12).toNat+k) % 12) ⟨#[]⟩).map .str),fr)
 |[]=>@λs7=>⟨_,by rw[Zr,bc];rfl⟩
 |k::ks=>@λs7=>by
  refine aQ (pd n c (.fz (.list (oY.map .str))) a2 a3 a4 a5 a6 (.inr rfl) ks (.fz (.int (0+k)))) λfr ih=>?_
  have hm:=fm (c.fdiv 9) 12 (by decide);have hx:aW (oY.map str) ((c.fdiv 9+(0+(k:Int))).fmod 12)=some (.str (oY.getD ((((c.fdiv 9).fmod 12).toNat+k) % 12) ⟨#[]⟩)):=by
   refine Er (qi (c.fdiv 9) k 12 (by decide)) ?_;unfold aW;rw[YV (ZS _),ZR,ZF];refine Er (ZH) ?_;refine Er (ZG (by exact(mod_lt _ (by decide)))) ?_
   rfl
  refine⟨fr,?_⟩;refine Er Zt ?_;rw[Zt];refine Er Zt ?_
  rcases hs with rfl|rfl<;>exact mq [.d 3 hx,.cp 0 ih] rfl
noncomputable abbrev kB:List Nat:=[97,98,99,100,101,102,103,104,105,106,107,108,109,110,111,112,113,114,115,116,117,118,119,120,121,122,48,49,50,51,52,53,54,55,56,57]
noncomputable def sg (p r:Int) (d:Nat):Str:=⟨(rep p [109]).toArray ++ #[d]++(rep r [109]).toArray⟩
noncomputable def big (p r N:Nat):List Str:=(kB.take N).map (sg p r)
theorem BR (a b:Str):decide (a=b)=(a.cps.toList==b.cps.toList):=Y5 ((e_strD a b).symm.trans rfl)
noncomputable def Nc (L:List Nat):Bool:=match L with
 |c::_=>bl.contains c
 |[]=>false
noncomputable def xD (L:List Nat):Bool:=decide (1<=L.length)&&(decide (L.length<=8)&&(Nc L&&(!((gD.any λy=>y.cps.toList==L)||((mz.any λy=>y.cps.toList==L)||(L==d8.cps.toList)))&&(!(L==fc.cps.toList)&&(!(L==aK.cps.toList)&&L.all gz)))))
theorem yj (x:Str):aH x=xD x.cps.toList:=by
 unfold aH cP cu xD;refine Er (show tK x=Nc x.cps.toList from rfl) ?_;simp only[BR,Z8]
noncomputable def sl (p r d:Nat):List Nat:=replicate p 109++d::replicate r 109
theorem nI (p r d:Nat):(sg p r d).cps.toList=sl p r d:=by
 have e:∀n:Nat,rep (n:Int) [109]=replicate n 109:=λn=>by unfold rep;rw[ZR];exact List.flatten_replicate_singleton
 unfold sg sl;rw[e,e];simp
theorem DJ {p d:Nat} (h:sg p r d=sg p r e):d=e:=by
 have h:=Y2 (λx:Str=>x.cps.toList) h;simp only[nI]at h;exact(List.cons.inj (List.append_cancel_left h)).1
noncomputable def FJ (p r N:Nat):Bool:=(kB.take N).all λd=>xD (sl p r d) && !(sl p r d==[116,111,112])
theorem L9:((List.range 8).all λs=>(List.range (s+1)).all λp=>FJ p (s-p) (if p=0 then 26 else 36))=true:=by kernel_rfl
theorem DI:kB.Nodup:=by decide +kernel
theorem Ca {p:Nat} (h:N<=36):(big p r N).length=N:=by
 unfold big;rw[ZB];exact Er Zw (Zd h)
theorem xV {t a b:Nat} (h:a<b) (hb:b<N):(t+a) % N≠(t+b) % N:=λe=>by
 have q:=Nat.sub_mod_eq_zero_of_mod_eq e.symm;rw[Nat.add_sub_add_left,Nat.mod_eq_of_lt (lt_of_le_of_lt (sub_le b a) hb)]at q;exact absurd q (Nat.sub_ne_zero_of_lt h)
theorem Dp {p t:Nat} (hN:N=26\/N=36) (h:FJ p r N=true):ik ((List.range 12).map λk=>sg p r (kB.getD ((t+k) % N) 0)):=by
 unfold FJ at h;simp only[Z7,ZN,Z5]at h;have h2:∀x∈big p r N,aH x=true:=λx hx=>by
  obtain⟨d,hd,rfl⟩:=mem_map.mp hx;rw[yj,nI];exact(h d hd).1
 have h3:cu ya (big p r N)=false:=by
  rw[eq_false_iff];intro m;obtain⟨d,hd,e⟩:=mem_map.mp (bk.mp m);have e:=Y2 (λx:Str=>x.cps.toList) e;simp only[nI]at e;have:=(h d hd).2;rw[e]at this;exact absurd this (by decide)
 have nd:(big p r N).Nodup:=pairwise_map.mpr (((take_sublist N kB).nodup DI).imp λip e=>ip (DJ e));have hl:(big p r N).length=N:=Ca (Y4 hN (λkN=>(Ln [N] (.w .x (.c 36)) [Ge .x (.c 26)] rfl kN)) (λkN=>(Ln [N] (.w .x (.c 36)) [Ge .x (.c 36)] rfl kN)));have hg:∀i,i<N->(big p r N)[i]? = some (sg p r (kB.getD i 0)):=λi hi=>by
  have Lr:i<kB.length:=Ze hi (by rcases hN with rfl|rfl<;>decide);unfold big;refine Er (ZF) (Er (List.getElem?_take_of_lt hi) (Er (ZH) (Er (ZG Lr) ?_)))
  rfl
 have hm:∀x,x∈((List.range 12).map λk=>sg p r (kB.getD ((t+k) % N) 0))->x∈big p r N:=λx hx=>by
  refine aQ (mem_map.mp hx) λk Q=>?_;refine Er Q.2.symm ?_
  exact Zm (hg _ (mod_lt _ (Y4 hN (λxJ=>(Ln [N] (.w (.p 1 (.c 0)) .x) [Gf .x (.c 26)] rfl xJ)) (λxJ=>(Ln [N] (.w (.p 1 (.c 0)) .x) [Gf .x (.c 36)] rfl xJ)))))
 refine⟨by simp,?_,λx hx=>h2 x (hm x hx),λhx=>(by have h3:=(bk.mpr (hm _ hx))▸h3;cases h3)⟩
 .refine pairwise_map.mpr (Pairwise.imp_of_mem ?_ List.pairwise_lt_range)
  intro a b ha hb By e;have ha:=mem_range.mp ha;have hb:=mem_range.mp hb;have i1:(t+a) % N<N:=mod_lt _ (Y4 hN (λeY=>(Ln [N] (.w (.p 1 (.c 0)) .x) [Gf .x (.c 26)] rfl eY)) (λeY=>(Ln [N] (.w (.p 1 (.c 0)) .x) [Gf .x (.c 36)] rfl eY)));have i2:(t+b) % N<N:=mod_lt _ (L1 [N,(t+a) % N] (.p 1 (.c 0)) .x (.p 1 .y) .x rfl i1);have g1:=hg _ i1;have g2:=hg _ i2;rw[<- hl]at i1 i2;rw[hl]at i1 i2;have q:=List.pairwise_iff_getElem.mp nd;have e1:(big p r N)[(t+a) % N]'(Ln [(t+a) % N,(big p r N).length,N] (.w (.p 1 .x) .y) [Gf .y .z,Gl (.p 1 .x) .z] rfl hl i1)=sg p r (kB.getD ((t+a) % N) 0):=by
   have:=ZG (l:=big p r N) (i:=(t+a) % N) (Ln [(t+a) % N,(big p r N).length,N] (.w (.p 1 .x) .y) [Gf .y .z,Gl (.p 1 .x) .z] rfl hl i1);rw[this]at g1;exact Y5 g1
  have e2:(big p r N)[(t+b) % N]'(Ln [(t+b) % N,(big p r N).length,N] (.w (.p 1 .x) .y) [Gf .y .z,Gl (.p 1 .x) .z] rfl hl i2)=sg p r (kB.getD ((t+b) % N) 0):=by
   have:=ZG (l:=big p r N) (i:=(t+b) % N) (Ln [(t+b) % N,(big p r N).length,N] (.w (.p 1 .x) .y) [Gf .y .z,Gl (.p 1 .x) .z] rfl hl i2);rw[this]at g2;exact Y5 g2
  rcases Nat.lt_or_gt_of_ne (xV By (Y4 hN (λxG=>(Ln [b,N] (.w (.p 1 .x) .y) [Gl (.p 1 .x) (.c 12),Gf .y (.c 26)] rfl hb xG)) (λxG=>(Ln [b,N] (.w (.p 1 .x) .y) [Gl (.p 1 .x) (.c 12),Gf .y (.c 36)] rfl hb xG))):(t+a) % N≠(t+b) % N) with l7|l7
  .exact q _ _ (by exact(Ln [(t+a) % N,(big p r N).length,N] (.w (.p 1 .x) .y) [Gf .y .z,Gl (.p 1 .x) .z] rfl hl i1)) (by exact(Ln [(t+b) % N,(big p r N).length,N] (.w (.p 1 .x) .y) [Gf .y .z,Gl (.p 1 .x) .z] rfl hl i2)) l7 (by refine Er e1 (Er e2 ?_);exact e)
  .exact q _ _ (by exact(Ln [(t+b) % N,(big p r N).length,N] (.w (.p 1 .x) .y) [Gf .y .z,Gl (.p 1 .x) .z] rfl hl i2)) (by exact(Ln [(t+a) % N,(big p r N).length,N] (.w (.p 1 .x) .y) [Gf .y .z,Gl (.p 1 .x) .z] rfl hl i1)) l7 (by refine Er e1 (Er e2 ?_);exact e.symm)
noncomputable abbrev NH:List St:=[.asg (.one 6) (.idx (aa 1) (.op2 .mod (.op2 .add (.op2 .fdiv (aa 0) (ai 64)) (aa 5)) (.idx (.list [ai 26,ai 36]) (.bi .int [.cmp .gt (aa 3) (ai 0)])))),
   .app (.var 4) (.op2 .add (.op2 .add (.op2 .mul (.lit (S [109])) (aa 3)) (aa 6)) (.op2 .mul (.lit (S [109])) (.op2 .sub (.op2 .sub (aa 2) (ai 1)) (aa 3))))]
theorem Ax (n:Nat) (c:Int) (z p N:Nat) (hz:1<=z/\z<=8) (hp:p<z) (hN:N=if p=0 then 26 else 36) (a7:Slot):∀(ks:List Nat) (aE:List Str) (s5 s6:Slot),aE.length+ks.length<=100->dL ⟨P.glob,cF P n,[],false⟩ [.fz (.int c),.fz (.str ⟨kB.toArray⟩),.fz (.int z),.fz (.int p),.own (.list (aE.map .str)),s5,s6,a7] (.one 5) NH [5,6] (ks.map λ(k:Nat)=>.int (0+k))=some (.ok .next,[.fz (.int c),.fz (.str ⟨kB.toArray⟩),.fz (.int z),.fz (.int p),.own (.list ((aE++ks.map λk=>sg p ((z-1-p:Nat):Int) (kB.getD ((((c.fdiv 64).fmod N).toNat+k) % N) 0)).map .str)),.no,.no,a7]):=by
 intro ks
 induction ks with
 |nil=>exact @λaE s5 s6 ac=>by refine Er Zr ?_;rw[cQ,Zr,ZL];rfl
 |cons k ks IH=>
  intro aE s5 s6 hl;have ih:=IH (aE++[sg p ((z-1-p:Nat):Int) (kB.getD ((((c.fdiv 64).fmod N).toNat+k) % N) 0)]);have Ka:N=26\/N=36:=by refine Er hN ?_;by_cases q:p=0<;>simp[q]
  have hx:aW kB ((c.fdiv 64+(0+(k:Int))).fmod N)=some (kB.getD ((((c.fdiv 64).fmod N).toNat+k) % N) 0):=by
   have e:(c.fdiv 64+(0+(k:Int))).fmod N=(((((c.fdiv 64).fmod N).toNat+k) % N:Nat):Int):=qi (c.fdiv 64) k N (by rcases Ka with rfl|rfl<;>decide);have l7:(((c.fdiv 64).fmod N).toNat+k) % N<kB.length:=Ze (mod_lt _ (by rcases Ka with rfl|rfl<;>decide)) (by rcases Ka with rfl|rfl<;>decide);refine Er e ?_;unfold aW;refine Er (YV (ZS _)) ?_;rw[ZR];refine Er (ZH) ?_;refine Er (ZG l7) ?_
   rfl
  have hi:aW [int 26,.int 36] (if decide (0<(p:Int))=true then 1 else 0)=some (.int N):=by
   refine Er hN ?_
   by_cases q:p=0
   .subst q;rfl
   .refine Er (YW q) (Er (YV (Y0 ((Y4 (Nat.lt_or_gt_of_ne q) (λeZ=>(d7 [p] [] 0 (.i (.p 1 (.c 0)) (.n .x)) [Gl (.p 1 .x) (.c 0)] rfl eZ)) (λeZ=>(Ln [p] (.i (.p 1 (.c 0)) (.n .x)) [Gl (.p 1 (.c 0)) .x] rfl eZ))):0<(p:Int)))) ?_);rfl
  have n0:¬((N:Int)=0):=by rcases Ka with rfl|rfl<;>decide
  have wa:fU (.str ⟨kB.toArray⟩) (.int ((c.fdiv 64+(0+(k:Int))).fmod N))=some (.str ⟨#[kB.getD ((((c.fdiv 64).fmod N).toNat+k) % N) 0]⟩):=by
   show(aW kB _).map _=_
   refine Er hx ?_;rfl
  have e1:∀k:Int,0<=k->k<=10->op2 .mul (.str ⟨#[109]⟩) (.int k)=some (.fz (.str ⟨(rep k [109]).toArray⟩)):=λk h0 h1=>(Ei _ _).trans (YV ⟨by exact(Li [k] (.i (.g (.c 1000000000)) .x) [Gi (.c 0) .x] rfl h0),by exact(Li [k] (.i .x (.c 1000000000)) [Gi .x (.c 10)] rfl h1),by show 1*k.toNat<=16777216;exact(d7 [k.toNat] [k] 1 (.w (.m 1 .x) (.c 16777216)) [Gi .x (.c 10),Gj (.n .x) .x] rfl h1 (ZQ (a:=k) h0))⟩)
  have l1:∀k:Int,k<=10->(rep k [109]).length<=10:=λk h=>by rw[nM];show 1*k.toNat<=10;omega
  have a2:=e1 ((z:Int)-1-p) (Ln [z,p] (.i (.c 0) (.s (.s (.n .x) (.c 1)) (.n .y))) [Gl (.p 1 .y) .x] rfl hp) (Ln [z,p] (.i (.s (.s (.n .x) (.c 1)) (.n .y)) (.c 10)) [Gl .x (.c 8)] rfl hz.2);have ez:((z:Int)-1-p)=((z-1-p:Nat):Int):=by exact(Le [z,p,z-(1:Nat)-p,z-(1:Nat)] (.j (.s (.s (.n .x) (.c 1)) (.n .y)) (.n .z)) [Gq (.a .z .y) .u,Gq (.p 1 .u) .x] rfl (Za (n:=z-(1:Nat)) (m:=p) (Ln [p,z-1,z] (.w .x .y) [Gl (.p 1 .x) .z,Gf (.p 1 .y) .z] rfl hp (Za (n:=z) (m:=1) (hz.1)))) (Za (n:=z) (m:=1) (hz.1)))
  rw[show rep ((z:Int)-1-p) [109]=rep ((z-1-p:Nat):Int) [109] by exact Er ez rfl]at a2;simp only[Zt];generalize kB.getD ((((c.fdiv 64).fmod N).toNat+k) % N) 0=d at wa ih ⊢;have a3:op2 .add (.str ⟨(rep (p:Int) [109]).toArray⟩) (.str ⟨#[d]⟩)=some (.fz (.str ⟨(rep (p:Int) [109]).toArray ++ #[d]⟩)):=(xq _ _).trans (YV (by refine Er Zj ?_;show _+1<=16777216;exact(L1 [(rep (↑p:Int) [109]).length] (.p 1 .x) (.c 16777216) .x (.c 10) rfl (l1 (p:Int) (Ln [p,z] (.i (.n .x) (.c 10)) [Gl .y (.c 8),Gl (.p 1 .x) .y] rfl hz.2 hp)))));have a4:op2 .add (.str ⟨(rep (p:Int) [109]).toArray ++ #[d]⟩) (.str ⟨(rep ((z-1-p:Nat):Int) [109]).toArray⟩)=some (.fz (.str (sg p ((z-1-p:Nat):Int) d))):=(xq _ _).trans (YV (by show((rep (p:Int) [109]).toArray ++ #[d]).size+((rep ((z-1-p:Nat):Int) [109]).toArray).size<=16777216;refine Er Array.size_append (Er Zj (Er Zj (Er Zj ?_)));show _+1+_<=16777216;exact(Ln [(rep (↑p:Int) [109]).length,(rep (↑(z-1-p):Int) [109]).length] (.w (.a (.p 1 .x) .y) (.c 16777216)) [Gl .x (.c 10),Gl .y (.c 10)] rfl (l1 (p:Int) (Ln [p,z] (.i (.n .x) (.c 10)) [Gl .y (.c 8),Gl (.p 1 .x) .y] rfl hz.2 hp)) (l1 ((z-1-p:Nat):Int) (Ln [z-1-p,z,p,z-1] (.i (.n .x) (.c 10)) [Gl .y (.c 8),Ge (.a .x .z) .u,Ge (.p 1 .u) .y] rfl hz.2 (Za (n:=z-(1:Nat)) (m:=p) (Ln [p,z-1,z] (.w .x .y) [Gl (.p 1 .x) .z,Gf (.p 1 .y) .z] rfl hp (Za (n:=z) (m:=1) (hz.1)))) (Za (n:=z) (m:=1) (hz.1)))))));have df:decide ((aE.map str).length<Sz)=true:=Y0 (by rw[ZB];simp only[ZD,Sz]at *;exact(L1 [aE.length,ks.length] (.p 1 .x) (.c 16777216) (.a .x (.p 1 .y)) (.c 100) rfl hl));have ih:=ih (.fz (.int (0+k))) (.fz (.str ⟨#[d]⟩)) (by simp only[ZE,ZD,length_nil]at *;exact(L1 [aE.length,ks.length] (.a (.a .x (.p 1 (.c 0))) .y) (.c 100) (.a .x (.p 1 .y)) (.c 100) rfl hl));rw[ZM,Zu (l₂:=[_])]at ih;exact mn [.b 2 (show ag Cm.gt (int (↑p:Int)) (int (0:Int))=some (decide ((0:Int)<(↑p:Int))) by simp only[gh]),.d 1 hi,.v 0 (show op2 lU.mod (int (c.fdiv (64:Int)+((0:Int)+(↑k:Int)))) (int (↑N:Int))=some (Rv.fz (int ((c.fdiv (64:Int)+((0:Int)+(↑k:Int))).fmod (↑N:Int)))) by simp only[gH,n0,if_false]),.d 0 wa,.v 0 ((e1 (p:Int) (Ln [p] (.i (.c 0) (.n .x)) [] rfl) (Ln [p,z] (.i (.n .x) (.c 10)) [Gl .y (.c 8),Gl (.p 1 .x) .y] rfl hz.2 hp))),.v 0 a3,.v 2 a2,.v 0 a4,.t 0 df,.lp 0 ih] rfl
theorem xC (n:Nat) (c:Int):FZ (λl r=>cF P (n+1) false 24 [.fz (.int c)]=some (.ok r,[])) (λl r=>ik l) (λl r=>(r = .own (.list (l.map .str))\/r = .fz (.list (l.map .str)))):=by
 by_cases q:c.fmod 9=8
 .have Nl:=fm (c.fdiv 9) 12 (by decide)
  exact aQ (pd n c (.own (.list (oY.map .str))) .no .no .no .no .no (.inl rfl) (List.range 12) .no) λfr hf=>(⟨JT ((c.fdiv 9).fmod 12).toNat,.own (.list ((JT ((c.fdiv 9).fmod 12).toNat).map .str)),by exact aJ [.b 1 (show ag Cm.eq (int (c.fmod (9:Int))) (int (8:Int))=some true by simp only[q,dY,YX]),.l 2 ((rfl:cj .range [.int 12]=some ((List.range 12).map λ(k:Nat)=>int (0+k)))),.cp 0 hf] rfl,D2 _ (d7 [((c.fdiv (9:Int)).fmod (12:Int)).toNat] [(c.fdiv (9:Int)).fmod (12:Int)] 1 (.w (.p 1 .x) (.c 12)) [Gi (.p 1 .x) (.c 12),Gj (.n .x) .x] rfl Nl.2 (ZQ (a:=(c.fdiv (9:Int)).fmod (12:Int)) (Nl.1))),.inl rfl⟩)
 .have h8:=fm c 8 (by decide)
  have hp:=fm (c.fdiv 8) (1+c.fmod 8) (Li [c.fmod (8:Int)] (.i (.p 1 (.c 0)) (.a (.c 1) .x)) [Gi (.c 0) .x] rfl h8.1);have Gg:1+c.fmod 8=(((1+c.fmod 8).toNat:Nat):Int):=by exact((ZQ (a:=(1:Int)+c.fmod (8:Int)) (Li [c.fmod (8:Int)] (.i (.c 0) (.a (.c 1) .x)) [Gi (.c 0) .x] rfl h8.1)).symm)
  have v1:op2 .add (.int 1) (.int (c.fmod 8))=some (.fz (.int (((1+c.fmod 8).toNat:Nat):Int))):=by refine Er Gg.symm ?_;rfl
  generalize (1+c.fmod 8).toNat=z at Gg v1;have hp:=Gg▸hp;have KY:(c.fdiv 8).fmod z=((((c.fdiv 8).fmod z).toNat:Nat):Int):=by exact((ZQ (a:=(c.fdiv (8:Int)).fmod (↑z:Int)) (hp.1)).symm)
  have v2:op2 .mod (.int (c.fdiv 8)) (.int z)=some (.fz (.int ((((c.fdiv 8).fmod z).toNat:Nat):Int))):=by refine Er KY.symm ?_;rw[gH];exact Er (YW (by exact(λkP=>(dW [z] [c.fmod (8:Int)] [Gi (.c 0) .x,Gj (.a (.c 1) .x) (.n .x),Gj (.n .x) (.c 0)] rfl h8.1 Gg kP)))) rfl
  generalize ((c.fdiv 8).fmod z).toNat=p at KY v2;have hp:=KY▸hp;have lp:=Ax n c z p (if p=0 then 26 else 36) (⟨(Ln [z,p] (.w (.c 1) .x) [Gi (.c 0) (.n .y),Gi (.p 1 (.n .y)) (.n .x)] rfl hp.1 hp.2),(d7 [z] [c.fmod (8:Int)] 1 (.w .x (.c 8)) [Gi (.p 1 .x) (.c 8),Gk (.a (.c 1) .x) (.n .x)] rfl h8.2 Gg)⟩) (Ln [p,z] (.w (.p 1 .x) .y) [Gi (.p 1 (.n .x)) (.n .y)] rfl hp.2) rfl .no (List.range 12) [] .no .no (by decide);rw[Zr,Zk]at lp;refine⟨(List.range 12).map λk=>sg p ((z-1-p:Nat):Int) (kB.getD ((((c.fdiv 64).fmod (if p=0 then 26 else 36:Nat)).toNat+k) % (if p=0 then 26 else 36)) 0),.fz (.list (((List.range 12).map λk=>sg p ((z-1-p:Nat):Int) (kB.getD ((((c.fdiv 64).fmod (if p=0 then 26 else 36:Nat)).toNat+k) % (if p=0 then 26 else 36)) 0)).map .str)),?_,Dp (p:=p) (r:=z-1-p) (N:=if p=0 then 26 else 36) (t:=((c.fdiv 64).fmod (if p=0 then 26 else 36:Nat)).toNat) ?_ ?_,.inr rfl⟩
  .exact aJ [.b 1 (show ag Cm.eq (int (c.fmod (9:Int))) (int (8:Int))=some false by simp only[dY,q,YY]),.v 2 v1,.v 1 v2,.l 0 ((rfl:cj .range [.int 12]=some ((List.range 12).map λ(k:Nat)=>int (0+k)))),.lp 0 lp] rfl
  .by_cases q:p=0<;>simp[q]
  .exact all_eq_true.mp (all_eq_true.mp L9 (z-1) (mem_range.mpr (d7 [z-(1:Nat),z] [c.fmod (8:Int)] 1 (.w (.p 1 .x) (.c 8)) [Gi (.p 1 .x) (.c 8),Gk (.a (.c 1) .x) (.n .y),Ge (.p 1 .x) .y] rfl h8.2 Gg (Za (n:=z) (m:=1) (Ln [z,p] (.w (.c 1) .x) [Gi (.c 0) (.n .y),Gi (.p 1 (.n .y)) (.n .x)] rfl hp.1 hp.2))))) p (mem_range.mpr (Ln [p,z-1,z] (.w (.p 1 .x) (.p 1 .y)) [Gi (.p 1 (.n .x)) (.n .z),Gf (.p 1 .y) .z] rfl hp.2 (Za (n:=z) (m:=1) (Ln [z,p] (.w (.c 1) .x) [Gi (.c 0) (.n .y),Gi (.p 1 (.n .y)) (.n .x)] rfl hp.1 hp.2))))
mutual
noncomputable def ln:T->Nat
 |.val d=>22*wt d
 |.nam _=>8
 |.ref _=>20
 |.iff ps=>5+j6 ps
 |.doo _ ps=>8+j6 ps
 |.call _ ps=>11+j6 ps
 |.odd _=>0
noncomputable def j6:List T->Nat
 |[]=>0
 |t::ts=>1+ln t+j6 ts
end
theorem Eo:∀ {ts:List T},(∀t∈ts,ln t<=m)->j6 ts<=ts.length*(m+1):=by
 intro ts
 induction ts with
 |nil=>exact @λac=>Y8 _
 |cons t ts ih=>
  intro h;show 1+ln t+j6 ts<=(ts.length+1)*(m+1)
  rw[Nat.succ_mul];exact(Ln [ln t,j6 ts,ts.length*(m+1),m] (.w (.a (.a (.c 1) .x) .y) (.a .z (.p 1 .u))) [Gl .x .u,Gl .y .z] rfl (h t Zn) (ih (hG h)))
noncomputable abbrev Wd (d:Nat):Nat:=240*9 ^ (d-4)
theorem Ce (d:Nat):240<=Wd d:=Nat.le_mul_of_pos_right _ (Nat.pow_pos (by decide))
theorem JA {d:Nat} (h:d<=e):Wd d<=Wd e:=Nat.mul_le_mul_left _ (Nat.pow_le_pow_right (by decide) (Y4 (Nat.le_total ((4:Nat)) d) (λpG=>(Ln [d-4,e-4,d,e] (.w .x .y) [Gl .z .u,Ge (.p 4 .x) .z,Gf (.p 4 .y) .u] rfl h (Za (n:=d) (m:=4) pG) (Za (n:=e) (m:=4) (Ln [e,d] (.w (.c 4) .x) [Gl .y .x,Gl (.c 4) .y] rfl h pG)))) (λpG=>(Ln [d-4,e-4] (.w .x .y) [Ge .x (.c 0)] rfl (Nat.sub_eq_zero_of_le (n:=d) (m:=4) pG)))))
theorem FP {d:Nat} {ts:List T} (h:4<=d) (hk:ts.length<=8) (hl:∀t∈ts,ln t<=Wd d):11+j6 ts<=Wd (d+1):=by
 have h1:=Eo hl;have h2:=Nat.mul_le_mul_right (Wd d+1) hk;have h3:=Ce d;have h4:Wd (d+1)=9*Wd d:=by
  show 240*9 ^ (d+1-4)=9*(240*9 ^ (d-4))
  refine Er (show d+1-4=(d-4)+1 by exact(Le [d+(1:Nat)-(4:Nat),d-(4:Nat),d] (.e .x (.p 1 .y)) [Gp (.p 4 .x) (.p 1 .z),Gq (.p 4 .y) .z] rfl (Za (n:=d+(1:Nat)) (m:=4) (L1 [d] (.c 4) (.p 1 .x) (.c 4) .x rfl h)) (Za (n:=d) (m:=4) h))) ?_;rw[pow_succ];exact(Le [(9:Nat) ^ (d-(4:Nat))*(9:Nat),(9:Nat) ^ (d-(4:Nat))] (.e (.m 240 .x) (.m 9 (.m 240 .y))) [(240,-240,.e .x (.m 9 .y))] rfl (Zb ((9:Nat) ^ (d-(4:Nat))) ((9:Nat))))
 generalize Wd d=m at *;generalize ts.length*(m+1)=z at *;exact Er h4 (Ln [j6 ts,m,z] (.w (.a (.c 11) .x) (.m 9 .y)) [Gl (.c 240) .y,Gl .x .z,Gl .z (.m 8 (.p 1 .y))] rfl h3 h1 h2)
structure fk (ns:List Str) (cs:List (Str×Nat)) (d:Nat) (t:T):Prop where
 ok:∀r,d<=r->dJ ns cs r t=true
 dp:fG t<=5
 ln:ln t<=Wd d
theorem fk.mono {ns:List Str} {d:Nat} {t:T} (h:fk ns cs d t) (hd:d<=e):fk ns cs e t:=⟨λr hr=>h.ok r (Ln [d,r,e] (.w .x .y) [Gl .x .z,Gl .z .y] rfl hd hr),h.dp,Zf h.ln (JA hd)⟩
theorem fk.val {ns:List Str} (h:Vl d):fk ns cs 1 (.val d):=⟨λr hr=>by
 obtain⟨k,rfl⟩:∃k,r=k+1:=⟨r-1,by exact((Za (n:=r) (m:=1) hr).symm)⟩
 show(good d&&decide (wt d<=50))=true
 refine Er h.1 (Er (Y0 (by have:=h.2.2;exact(L1 [wt d] .x (.c 50) .x (.c 10) rfl this))) ?_);rfl,h.2.1,by have:=h.2.2;show 22*wt d<=240;exact(Ln [wt d] (.w (.m 22 .x) (.c 240)) [(22,.w .x (.c 10))] rfl this)⟩
theorem fk.nam {ns:List Str} (h:x∈ns):fk ns cs 1 (.nam x):=⟨λr hr=>by
 obtain⟨k,rfl⟩:∃k,r=k+1:=⟨r-1,by exact((Za (n:=r) (m:=1) hr).symm)⟩
 exact bk.mpr h,by show 0<=5;decide,Zf (Zh rfl) (Ce 1)⟩
theorem fk.ref {ns:List Str} (h:x∈eQ):fk ns cs 1 (.ref x):=⟨λr hr=>by
 obtain⟨k,rfl⟩:∃k,r=k+1:=⟨r-1,by exact((Za (n:=r) (m:=1) hr).symm)⟩
 exact bk.mpr h,by show 0<=5;decide,Zf (Zh rfl) (Ce 1)⟩
theorem ou:∀ {ts:List T},(∀t∈ts,fG t<=m)->eh ts<=m:=by
 intro ts
 induction ts with
 |nil=>exact @λac=>Y8 _
 |cons t ts ih=>
  intro h;exact(Nat.max_le.mpr ⟨(h t Zn),(ih (hG h))⟩)
theorem fk.iff {ns:List Str} {d:Nat} {ps:List T} (h4:4<=d) (hl:ps.length=3) (h:∀t∈ps,fk ns cs d t):fk ns cs (d+1) (.iff ps):=⟨λr hr=>by
 obtain⟨k,rfl⟩:∃k,r=k+1:=⟨r-1,by exact((Za (n:=r) (m:=1) (Ln [r,d] (.w (.c 1) .x) [Gl (.c 4) .y,Gl (.p 1 .y) .x] rfl h4 hr)).symm)⟩
 show(decide (ps.length=3)&&ps.all (dJ ns cs k))=true
 refine Er (Y0 hl) ?_;rw[Z3,ZN];exact λt ht=>(h t ht).ok k (L1 [d,k] .x .y (.p 1 .x) (.p 1 .y) rfl hr),ou λt ht=>(h t ht).dp,by have:=FP h4 (Ln [ps.length] (.w .x (.c 8)) [Ge .x (.c 3)] rfl hl) λt ht=>(h t ht).ln;show 5+j6 ps<=_;exact(L1 [j6 ps,9 ^ (d+1-4)] (.a (.c 5) .x) (.m 240 .y) (.a (.c 11) .x) (.m 240 .y) rfl this)⟩
theorem fk.doo {ns:List Str} {d:Nat} {ps:List T} (h4:4<=d) (h8:ps.length<=8) (ho:cP op=true) (hl:br op ps.length=true) (h:∀t∈ps,fk ns cs d t):fk ns cs (d+1) (.doo op ps):=⟨λr hr=>by
 obtain⟨k,rfl⟩:∃k,r=k+1:=⟨r-1,by exact((Za (n:=r) (m:=1) (Ln [r,d] (.w (.c 1) .x) [Gl (.c 4) .y,Gl (.p 1 .y) .x] rfl h4 hr)).symm)⟩
 show(cP op&&(br op ps.length&&ps.all (dJ ns cs k)))=true
 refine Er ho ?_;refine Er hl ?_;rw[Z3,Z3,ZN];exact λt ht=>(h t ht).ok k (L1 [d,k] .x .y (.p 1 .x) (.p 1 .y) rfl hr),ou λt ht=>(h t ht).dp,by have:=FP h4 h8 λt ht=>(h t ht).ln;show 8+j6 ps<=_;exact(L1 [j6 ps,9 ^ (d+1-4)] (.a (.c 8) .x) (.m 240 .y) (.a (.c 11) .x) (.m 240 .y) rfl this)⟩
theorem fk.call {ns:List Str} {d:Nat} {f:Str} {ps:List T} (h4:4<=d) (h8:ps.length<=8) (hl:cnt cs f=some ps.length) (h:∀t∈ps,fk ns cs d t):fk ns cs (d+1) (.call f ps):=⟨λr hr=>by
 obtain⟨k,rfl⟩:∃k,r=k+1:=⟨r-1,by exact((Za (n:=r) (m:=1) (Ln [r,d] (.w (.c 1) .x) [Gl (.c 4) .y,Gl (.p 1 .y) .x] rfl h4 hr)).symm)⟩
 show(decide (cnt cs f=some ps.length)&&ps.all (dJ ns cs k))=true
 refine Er (Y0 hl) ?_;rw[Z3,ZN];exact λt ht=>(h t ht).ok k (L1 [d,k] .x .y (.p 1 .x) (.p 1 .y) rfl hr),ou λt ht=>(h t ht).dp,by have:=FP h4 h8 λt ht=>(h t ht).ln;show 11+j6 ps<=_;exact this⟩
noncomputable abbrev E0:List D:=[.int 0,.int 1,.int 2,.tuple [],.tuple [.int 1],.tuple [.int 2,.int 0],.tuple [.tuple [],.int 1],.int 3]
noncomputable abbrev EZ:List D:=[.int 3,.int (-1),.tuple [.int 1,.int 2],.int 0]
noncomputable abbrev EY:List D:=[.tuple [.int 0,.tuple [.int 1,.tuple [.int 2]]],.int (-4),.int 2,.tuple []]
theorem oh:E0.all Ga=true/\EZ.all Ga=true/\EY.all Ga=true:=⟨by kernel_rfl,by kernel_rfl,by kernel_rfl⟩
theorem EX (n:Nat) (p w:Int):jY (λd=>cF P (n+1) false 25 [.fz (.int p),.fz (.int w)]=some (.ok (.fz d),[])) (λd=>Vl d):=by
 have h4:=fm p 4 (by decide);obtain⟨d0,e0,m0⟩:=bZ (xs:=E0) (fm p 8 (by decide)).1 (fm p 8 (by decide)).2;obtain⟨d1,e1,m1⟩:=bZ (xs:=EZ) h4.1 h4.2;obtain⟨d2,e2,m2⟩:=bZ (xs:=EY) h4.1 h4.2;have l8:((E0.length:Nat):Int)=8:=rfl;have l4:((EZ.length:Nat):Int)=4:=rfl;have Pb:((EY.length:Nat):Int)=4:=rfl
 by_cases q1:w=1
 .subst q1
  refine⟨d1,?_,(nh (all_eq_true.mp oh.2.1 d1 m1))⟩;exact aJ [.d 6 e1] rfl
 .have b1:(w==1)=false:=by simpa using q1
  by_cases q2:w=2
  .subst q2
   refine⟨d2,?_,(nh (all_eq_true.mp oh.2.2 d2 m2))⟩;exact aJ [.d 6 e2] rfl
  .have b2:(w==2)=false:=by simpa using q2
   refine⟨d0,?_,(nh (all_eq_true.mp oh.1 d0 m0))⟩;exact aJ [.b 0 (show ag Cm.eq (int w) (int (1:Int))=some false by simp only[er,cm,b1]),.b 1 (show ag Cm.eq (int w) (int (2:Int))=some false by simp only[er,cm,b2]),.d 3 e0] rfl
theorem A1:∀l:List Str,noDicts (l.map .str)=true:=by
 intro l
 induction l with
 |nil=>exact rfl
 |cons x l ih=>show(true&&noDicts (l.map .str))=true;refine Er ih ?_;rfl
theorem y9 (l:List Str):mP (.list (l.map .str)) (.list [])=some (decide (l=[])):=by
 cases l with
 |nil=>rfl
 |cons x l=>
  rw[Y1 (by simp)];rw[E7];have:qB (.list ((x::l).map .str)) (.list [])=true:=by
   unfold qB;rw[show noDict (.list ((x::l).map .str))=true from A1 _,show noDict (.list [])=true from rfl,Y0 (by show min _ (0+1)<=64;exact(L1 [min (list (List.map str (x::l))).depth ((0:Nat)+1)] .x (.c 64) .x (.p 1 (.c 0)) rfl (Zc ((list (List.map str (x::l))).depth) ((0:Nat)+(1:Nat)))))];rfl
  rw[YV this];rfl
theorem tz {ns:List Str} {d:Nat} {t:T} (ho:cP op=true) (hl:br op 1=true) (h:fk ns cs d t) (hn:ln t<=100):fk ns cs (d+1) (.doo op [t]):=⟨λr hr=>by
 obtain⟨k,rfl⟩:∃k,r=k+1:=⟨r-1,by exact((Za (n:=r) (m:=1) (L1 [r,d] (.c 1) .x (.p 1 .y) .x rfl hr)).symm)⟩
 show(cP op&&(br op 1&&(dJ ns cs k t&&true)))=true
 refine Er ho (Er hl (Er (h.ok k (L1 [d,k] .x .y (.p 1 .x) (.p 1 .y) rfl hr)) ?_));rfl,by have:=h.dp;show max (fG t) 0<=5;exact(Nat.max_le.mpr ⟨this,(L0 [] (.c 0) (.c 5) rfl)⟩),Zf (by show 8+(1+ln t+0)<=240;exact(L1 [ln t] (.a (.c 8) (.p 0 (.a (.c 1) .x))) (.c 240) .x (.c 100) rfl hn)) (Ce _)⟩
noncomputable abbrev Cq:List Str:=[⟨[100,111,119,110].toArray⟩,⟨[102,105,114,115,116].toArray⟩,⟨[114,101,115,116].toArray⟩,⟨[114,101,115,116].toArray⟩,⟨[100,111,119,110].toArray⟩]
theorem wF:Cq.all (λw=>cP w&&br w 1)=true:=by kernel_rfl
theorem Ah (n:Nat) (p:Int) (kn:List Str) (hs:List D) (ns:List Str) (cs:List (Str×Nat)) (hk:∀x∈kn,x∈ns):jY (λt=>cF P (n+2) false 26 [.fz (.int p),.fz (.list (kn.map .str)),.fz (.list hs)]=some (.ok (.fz (cM t)),[])) (λt=>fk ns cs 3 t):=by
 refine aQ (fF n p) λq hq=>?_
 obtain⟨d,hd,hv⟩:=EX n q ((hs.length:Int).fmod 3);have hn:=y9 kn
 by_cases q0:kn=[]\/(p.fdiv 5).fmod 8=0
 .refine⟨.val d,?_,(fk.val hv).mono (by decide)⟩
  rcases q0 with rfl|q0
  .exact aJ [.c 2 hq,.c 5 hd] rfl
  .have b0:((p.fdiv 5).fmod 8==0)=true:=by simpa using q0
   by_cases qn:kn=[]
   .rw[Y0 qn]at hn
    exact aJ [.c 2 hq,.b 0 hn,.c 4 hd] rfl
   .rw[Y1 qn]at hn
    exact aJ [.c 2 hq,.b 0 hn,.b 1 (show ag Cm.eq (int ((p.fdiv (5:Int)).fmod (8:Int))) (int (0:Int))=some true by simp only[er,cm,b0]),.c 3 hd] rfl
 .have qn:¬kn=[]:=λh=>q0 (.inl h)
  have b0:((p.fdiv 5).fmod 8==0)=false:=by(have:¬((p.fdiv 5).fmod 8=0):=λh=>q0 (.inr h));simpa using this
  have hn:=(Y1 qn)▸hn;have lk:(((kn.map str).length:Nat):Int)=(kn.length:Int):=by rw[ZB]
  have l0:=length_pos_iff.mpr qn;have hm:=fm q kn.length (Ln [kn.length] (.i (.p 1 (.c 0)) (.n .x)) [Gl (.p 1 (.c 0)) .x] rfl l0);obtain⟨x,hx,mx⟩:=bZ (xs:=kn.map str) (r:=q.fmod kn.length) hm.1 (by refine Er lk ?_;exact hm.2);refine aQ (mem_map.mp mx) λx z=>?_;obtain rfl:=z.2
  have nz:((kn.length:Int)=0)=False:=by simp only[eq_iff_iff,iff_false];exact(λxN=>(Lf [kn.length] [Gl (.p 1 (.c 0)) .x,Gj (.n .x) (.c 0)] rfl l0 xN))
  by_cases q3:(p.fdiv 5).fmod 8<3
  .refine⟨.nam x,?_,(.nam (hk x z.1):fk ns cs 1 (.nam x)).mono (by decide)⟩
   exact aJ [.c 2 hq,.b 0 hn,.b 1 (show ag Cm.eq (int ((p.fdiv (5:Int)).fmod (8:Int))) (int (0:Int))=some false by simp only[er,cm,b0]),.v 2 (show op2 lU.mod (int q) (int (↑(List.map str kn).length:Int))=some (Rv.fz (int (q.fmod (↑kn.length:Int)))) by simp only[lk,gH,nz,if_false]),.d 0 hx,.b 0 (show ag Cm.lt (int ((p.fdiv (5:Int)).fmod (8:Int))) (int (3:Int))=some true by simp only[bz,eq_true q3,YX])] rfl
  .have Cs:(p.fdiv 5).fmod 8<3↔False:=⟨λh=>q3 h,False.elim⟩
   obtain⟨w,hw,mw⟩:=bZ (xs:=Cq.map str) (r:=(p.fdiv 5).fmod 8-3) (Li [(p.fdiv (5:Int)).fmod (8:Int)] (.i (.c 0) (.s .x (.c 3))) [Gi (.c 3) .x] rfl (Int.not_lt.mp q3)) (by show _<(5:Int);exact(Li [(p.fdiv (5:Int)).fmod (8:Int)] (.i (.p 1 (.s .x (.c 3))) (.c 5)) [Gi (.p 1 .x) (.c 8)] rfl ((fm (p.fdiv 5) 8 (by decide))).2));refine aQ (mem_map.mp mw) λw Q=>?_;obtain rfl:=Q.2
   have ow:=all_eq_true.mp wF w Q.1;rw[Z7]at ow
   by_cases q7:(p.fdiv 5).fmod 8=7/\(q.fdiv 7).fmod 3=0
   .have b7:((p.fdiv 5).fmod 8==7)=true:=by simpa using q7.1
    have c7:((q.fdiv 7).fmod 3==0)=true:=by simpa using q7.2
    refine⟨.doo ⟨[114,101,115,116].toArray⟩ [.doo ⟨[114,101,115,116].toArray⟩ [.nam x]],?_,tz (by kernel_rfl) (by kernel_rfl) (tz (by kernel_rfl) (by kernel_rfl) (.nam (hk x z.1):fk ns cs 1 (.nam x)) (Zh rfl)) (Zh rfl)⟩;exact aJ [.c 2 hq,.b 0 hn,.b 1 (show ag Cm.eq (int ((p.fdiv (5:Int)).fmod (8:Int))) (int (0:Int))=some false by simp only[er,cm,b0]),.v 2 (show op2 lU.mod (int q) (int (↑(List.map str kn).length:Int))=some (Rv.fz (int (q.fmod (↑kn.length:Int)))) by simp only[lk,gH,nz,if_false]),.d 0 hx,.b 0 (show ag Cm.lt (int ((p.fdiv (5:Int)).fmod (8:Int))) (int (3:Int))=some false by simp only[bz,Cs,YY]),.d 2 hw,.b 0 (show ag Cm.eq (int ((p.fdiv (5:Int)).fmod (8:Int))) (int (7:Int))=some true by simp only[er,cm,b7]),.b 3 (show ag Cm.eq (int ((q.fdiv (7:Int)).fmod (3:Int))) (int (0:Int))=some true by simp only[er,cm,c7])] rfl
   .refine⟨.doo w [.nam x],?_,(tz ow.1 ow.2 (.nam (hk x z.1):fk ns cs 1 (.nam x)) (Zh rfl)).mono (by decide)⟩
    by_cases r7:(p.fdiv 5).fmod 8=7
    .have b7:((p.fdiv 5).fmod 8==7)=true:=by simpa using r7
     have c7:((q.fdiv 7).fmod 3==0)=false:=by(have:¬((q.fdiv 7).fmod 3=0):=λh=>q7 ⟨r7,h⟩);simpa using this
     exact aJ [.c 2 hq,.b 0 hn,.b 1 (show ag Cm.eq (int ((p.fdiv (5:Int)).fmod (8:Int))) (int (0:Int))=some false by simp only[er,cm,b0]),.v 2 (show op2 lU.mod (int q) (int (↑(List.map str kn).length:Int))=some (Rv.fz (int (q.fmod (↑kn.length:Int)))) by simp only[lk,gH,nz,if_false]),.d 0 hx,.b 0 (show ag Cm.lt (int ((p.fdiv (5:Int)).fmod (8:Int))) (int (3:Int))=some false by simp only[bz,Cs,YY]),.d 2 hw,.b 0 (show ag Cm.eq (int ((p.fdiv (5:Int)).fmod (8:Int))) (int (7:Int))=some true by simp only[er,cm,b7]),.b 3 (show ag Cm.eq (int ((q.fdiv (7:Int)).fmod (3:Int))) (int (0:Int))=some false by simp only[er,cm,c7])] rfl
    .have b7:((p.fdiv 5).fmod 8==7)=false:=by simpa using r7
     exact aJ [.c 2 hq,.b 0 hn,.b 1 (show ag Cm.eq (int ((p.fdiv (5:Int)).fmod (8:Int))) (int (0:Int))=some false by simp only[er,cm,b0]),.v 2 (show op2 lU.mod (int q) (int (↑(List.map str kn).length:Int))=some (Rv.fz (int (q.fmod (↑kn.length:Int)))) by simp only[lk,gH,nz,if_false]),.d 0 hx,.b 0 (show ag Cm.lt (int ((p.fdiv (5:Int)).fmod (8:Int))) (int (3:Int))=some false by simp only[bz,Cs,YY]),.d 2 hw,.b 0 (show ag Cm.eq (int ((p.fdiv (5:Int)).fmod (8:Int))) (int (7:Int))=some false by simp only[er,cm,b7])] rfl
structure Hd where
 nm:Str
 ps:List Str
 wn:List Bool
noncomputable abbrev dM (h:Hd):D:=.tuple [.str h.nm,.tuple (h.ps.map .str),.tuple (h.wn.map .bool)]
structure Mh (cs:List (Str×Nat)) (hs:List Hd):Prop where
 ne:hs≠ []
 wn:∀h∈hs,h.wn.length=h.ps.length
 le:∀h∈hs,h.ps.length<=6
 ct:∀h∈hs,cnt cs h.nm=some h.ps.length
noncomputable abbrev sN (l:List Str):Slot:=.fz (.list (l.map .str))
noncomputable abbrev sH (l:List Hd):Slot:=.fz (.list (l.map dM))
def iT (ns kn:List Str) (hs:List Hd) (cs:List (Str×Nat)) (m e:Nat):Prop:= ∀p:Int,jY (λt=>cF P m false 30 [.fz (.int p),.fz (.int e),sN ns,sN kn,sH hs]=some (.ok (.fz (cM t)),[])) (λt=>fk ns cs (e+4) t)
noncomputable abbrev D6:List St:=[.app (.var 6) (.call 30 [.call 22 [(.op2 .add (aa 0) (.op2 .mul (ai 7919) (aa 7)))],aa 2,aa 3,aa 4,aa 5])]
theorem ly (a b:List T):bj (a++b)=bj a++bj b:=by rw[gP,gP,gP];exact Er Zu rfl
theorem eU (k:Nat) (h:k<=1000):(if -1000000000<=(k:Int)/\(k:Int)<=(Sz:Int) then some (f6 0 (k:Int).toNat) else none)=some ((List.range k).map λ(k:Nat)=>int (0+k)):=by
 refine Er (YV ⟨by exact(Ln [k] (.i (.g (.c 1000000000)) (.n .x)) [] rfl),by show(k:Int)<=16777216;exact(Ln [k] (.i (.n .x) (.c 16777216)) [Gl .x (.c 1000)] rfl h)⟩) ?_;rw[ZR];rfl
theorem rA {ns:List Str} {hs:List Hd} (hF:iT ns kn hs cs (m+1) e) (p:Int) (a1:Slot):∀(ks:List Nat) (aE:List T) (s7:Slot),aE.length+ks.length<=1000->z3 (λts=>dL ⟨P.glob,cF P (m+1),[],false⟩ [.fz (.int p),a1,.fz (.int e),sN ns,sN kn,sH hs,.own (.list (bj aE)),s7] (.one 7) D6 [7] (ks.map λ(k:Nat)=>.int (0+k))=some (.ok .next,[.fz (.int p),a1,.fz (.int e),sN ns,sN kn,sH hs,.own (.list (bj (aE++ts))),.no])) (λts=>ts.length=ks.length) (λts=> ∀t∈ts,fk ns cs (e+4) t):=by
 intro ks
 induction ks with
 |nil=>exact @λaE s7 ac=>⟨[],by refine Er Zr ?_;rw[cQ,ZL];rfl,rfl,λt h=>by cases h⟩
 |cons k ks IH=>
  intro aE s7 hl;refine aQ (fF m (p+7919*(0+(k:Int)))) λq hq=>?_
  obtain⟨t,ht,ft⟩:=hF q;obtain⟨ts,ih,wb,hf⟩:=IH (aE++[t]) (.fz (.int (0+k))) (by simp only[ZE,ZD,length_nil]at *;exact(L1 [aE.length,ks.length] (.a (.a .x (.p 1 (.c 0))) .y) (.c 1000) (.a .x (.p 1 .y)) (.c 1000) rfl hl));refine⟨t::ts,?_,by exact Er ZD (Er ZD (Er wb rfl)),λu hu=>?_⟩
  .have hm:=nU (a:=7919) (b:=0+(k:Int)) (by decide)
   have hz:(bj aE).length<Sz:=by rw[fX];simp only[ZD]at hl;show aE.length<16777216;exact(L1 [aE.length,ks.length] (.p 1 .x) (.c 16777216) (.a .x (.p 1 .y)) (.c 1000) rfl hl)
   rw[ly,ZM]at ih;exact Er Zt (mn [.v 0 hm,.c 1 hq,.c 0 ht,.t 0 (show decide ((bj aE).length<Sz)=true by simp only[hz,YX]),.lp 0 ih] rfl)
  .rcases mem_cons.mp hu with rfl|hu
   .exact ft
   .exact hf u hu
theorem gC {ns:List Str} {hs:List Hd} (hF:iT ns kn hs cs (m+1) e) (p:Int) (lY:Nat) (hm:lY<=1000):z3 (λts=>cF P (m+2) false 27 [.fz (.int p),.fz (.int lY),.fz (.int e),sN ns,sN kn,sH hs]=some (.ok (.fz (.tuple (bj ts))),[])) (λts=>ts.length=lY) (λts=> ∀t∈ts,fk ns cs (e+4) t):=by
 obtain⟨ts,ih,hl,hf⟩:=rA hF p (.fz (.int lY)) (List.range lY) [] .no (by refine Er ZA ?_;show 0+lY<=1000;exact(L1 [lY] (.a (.c 0) .x) (.c 1000) .x (.c 1000) rfl hm));rw[Zk,show bj []=[] from rfl]at ih;refine⟨ts,?_,by exact Er hl (Er ZA rfl),hf⟩;exact aJ [.l 0 (show cj iU.range [int (↑lY:Int)]=some (List.map (λ(k:Nat)=>int ((0:Int)+(↑k:Int))) (List.range lY)) by simp only[cA,reduceNeg,(eU lY hm)]),.lp 0 ih] rfl
noncomputable abbrev I8:List St:=[.asg (.one 8) (.call 22 [.op2 .add (aa 0) (.op2 .mul (ai 7919) (aa 7))]),
   .iff (.idx (.idx (aa 5) (ai 2)) (aa 7)) [.app (.var 6) (.call 26 [aa 8,aa 3,aa 4])] [.app (.var 6) (.call 30 [aa 8,aa 1,aa 2,aa 3,aa 4])]]
theorem wj (l:List Bool) (k:Nat) (h:k<l.length):∃b,aW (l.map PyData.bool) (0+(k:Int))=some (.bool b):=by
 obtain⟨d,hd,m⟩:=bZ (xs:=l.map PyData.bool) (r:=0+(k:Int)) (Ln [k] (.i (.c 0) (.a (.c 0) (.n .x))) [] rfl) (by rw[ZB];exact(Ln [k,l.length] (.i (.p 1 (.a (.c 0) (.n .x))) (.n .y)) [Gl (.p 1 .x) .y] rfl h));obtain⟨b,q⟩:=mem_map.mp m;obtain rfl:=q.2;exact⟨b,hd⟩
theorem vX {ns:List Str} {hs:List Hd} (hF:iT ns kn hs cs (m+2) e) (hk:∀x∈kn,x∈ns) (p:Int) (h:Hd):∀(ks:List Nat) (aE:List T) (s7 s8:Slot),(∀k∈ks,k<h.wn.length)->aE.length+ks.length<=1000->z3 (λts=>dL ⟨P.glob,cF P (m+2),[],false⟩ [.fz (.int p),.fz (.int e),sN ns,sN kn,sH hs,.fz (dM h),.own (.list (bj aE)),s7,s8] (.one 7) I8 [7,8] (ks.map λ(k:Nat)=>.int (0+k))=some (.ok .next,[.fz (.int p),.fz (.int e),sN ns,sN kn,sH hs,.fz (dM h),.own (.list (bj (aE++ts))),.no,.no])) (λts=>ts.length=ks.length) (λts=> ∀t∈ts,fk ns cs (e+4) t):=by
 intro ks
 induction ks with
 |nil=>exact @λaE s7 s8 ac az=>⟨[],by refine Er Zr ?_;rw[cQ,ZL];rfl,rfl,λt h=>by cases h⟩
 |cons k ks IH=>
  intro aE s7 s8 hw hl;refine aQ (fF (m+1) (p+7919*(0+(k:Int)))) λq hq=>?_
  refine aQ (wj h.wn k (hw k Zn)) λb hb=>?_
  have hz:(bj aE).length<Sz:=by rw[fX];simp only[ZD]at hl;show aE.length<16777216;exact(L1 [aE.length,ks.length] (.p 1 .x) (.c 16777216) (.a .x (.p 1 .y)) (.c 1000) rfl hl)
  have df:∀t:T,(aE++[t]).length+ks.length<=1000:=λt=>by simp only[ZE,ZD,length_nil]at *;exact(L1 [aE.length,ks.length] (.a (.a .x (.p 1 (.c 0))) .y) (.c 1000) (.a .x (.p 1 .y)) (.c 1000) rfl hl)
  cases b with
  |true=>
   obtain⟨t,ht,ft⟩:=Ah m q kn (hs.map dM) ns cs hk;obtain⟨ts,ih,wb,hf⟩:=IH (aE++[t]) (.fz (.int (0+k))) (.fz (.int q)) (hG hw) (df t);refine⟨t::ts,?_,by rw[ZD,ZD,wb],λu hu=>?_⟩
   .rw[ly,ZM]at ih
    rw[Zt];exact mn [.v 0 ((nU (a:=7919) (b:=0+(k:Int)) (by decide))),.c 1 hq,.d 1 hb,.c 1 ht,.t 0 (show decide ((bj aE).length<Sz)=true by simp only[hz,YX]),.lp 0 ih] rfl
   .rcases mem_cons.mp hu with rfl|hu
    .exact ft.mono (L0 [e] (.c 3) (.p 4 .x) rfl)
    .exact hf u hu
  |false=>
   obtain⟨t,ht,ft⟩:=hF q;obtain⟨ts,ih,wb,hf⟩:=IH (aE++[t]) (.fz (.int (0+k))) (.fz (.int q)) (hG hw) (df t);refine⟨t::ts,?_,by rw[ZD,ZD,wb],λu hu=>?_⟩
   .rw[ly,ZM]at ih
    rw[Zt];exact mn [.v 0 ((nU (a:=7919) (b:=0+(k:Int)) (by decide))),.c 1 hq,.d 1 hb,.c 1 ht,.t 0 (show decide ((bj aE).length<Sz)=true by simp only[hz,YX]),.lp 0 ih] rfl
   .rcases mem_cons.mp hu with rfl|hu
    .exact ft
    .exact hf u hu
theorem B6 {ns:List Str} {hs:List Hd} (hF:iT ns kn hs cs (m+2) e) (hk:∀x∈kn,x∈ns) (hh:Mh cs hs) (p:Int):jY (λt=>cF P (m+3) false 28 [.fz (.int p),.fz (.int e),sN ns,sN kn,sH hs]=some (.ok (.fz (cM t)),[])) (λt=>fk ns cs (e+5) t):=by
 have lk:(((hs.map dM).length:Nat):Int)=(hs.length:Int):=by rw[ZB]
 have nz:((hs.length:Int)=0)=False:=by simp only[eq_iff_iff,iff_false];exact(λxS=>(Lf [hs.length] [Gl (.p 1 (.c 0)) .x,Gj (.n .x) (.c 0)] rfl (length_pos_iff.mpr hh.ne) xS))
 have hm:=fm p hs.length (Ln [hs.length] (.i (.p 1 (.c 0)) (.n .x)) [Gl (.p 1 (.c 0)) .x] rfl (length_pos_iff.mpr hh.ne));obtain⟨x,hx,mx⟩:=bZ (xs:=hs.map dM) (r:=p.fmod hs.length) hm.1 (by refine Er lk ?_;exact hm.2);refine aQ (mem_map.mp mx) λh q=>?_;obtain rfl:=q.2
 obtain⟨ts,ih,hl,hf⟩:=vX hF hk p h (List.range h.ps.length) [] .no .no (λk hk=>by refine Er (hh.wn h q.1) ?_;exact mem_range.mp hk) (by refine Er ZA ?_;show 0+h.ps.length<=1000;exact(L1 [h.ps.length] (.a (.c 0) .x) (.c 1000) .x (.c 6) rfl (hh.le h q.1)));rw[Zk,show bj []=[] from rfl]at ih;rw[ZA]at hl;refine⟨.call h.nm ts,?_,(fk.call (L0 [e] (.c 4) (.p 4 .x) rfl) (Ln [ts.length,h.ps.length] (.w .x (.c 8)) [Gl .y (.c 6),Ge .x .y] rfl (hh.le h q.1) hl) (Er (hh.ct h q.1) (Er hl rfl)) hf)⟩;have lp:(((h.ps.map str).length:Nat):Int)=(h.ps.length:Int):=by rw[ZB]
 exact aJ [.v 1 (show op2 lU.mod (int p) (int (↑(List.map dM hs).length:Int))=some (Rv.fz (int (p.fmod (↑hs.length:Int)))) by simp only[lk,gH,nz,if_false]),.d 0 hx,.l 2 (show cj iU.range [int (↑(List.map str h.ps).length:Int)]=some (List.map (λ(k:Nat)=>int ((0:Int)+(↑k:Int))) (List.range h.ps.length)) by simp only[lp,cA,reduceNeg,(eU h.ps.length (L1 [h.ps.length] .x (.c 1000) .x (.c 6) rfl (hh.le h q.1)))]),.lp 0 ih] rfl
noncomputable abbrev I2:List Str:=[yc,tG,tF,yd,ye,yb,nX,nY,rU,hK,rV,d8]
noncomputable abbrev Ke:List Str:=[nY,rU,hK,rV]
noncomputable def Nr (w:Str):Bool:=cP w&&(if cu w Ke then br w 1 && !decide (w=d8) else if w=d8 then true else br w 2)
theorem E9:I2.all Nr=true:=by kernel_rfl
theorem Ez (x:Str):n5 (.str x) (.tuple [(S [102,105,114,115,116]),(S [114,101,115,116]),(S [101,109,112,116,121]),(S [100,111,119,110])])=some (cu x Ke):=f9 x Ke
theorem I0 {ns:List Str} {hs:List Hd} (hF:iT ns kn hs cs (m+1) e) (OL:iT ns kn hs cs (m+1) 0) (p:Int):jY (λt=>cF P (m+3) false 29 [.fz (.int p),.fz (.int e),sN ns,sN kn,sH hs]=some (.ok (.fz (cM t)),[])) (λt=>fk ns cs (e+5) t):=by
 obtain⟨x,hx,mx⟩:=bZ (xs:=I2.map str) (r:=p.fmod 12) (fm p 12 (by decide)).1 (fm p 12 (by decide)).2;refine aQ (mem_map.mp mx) λw Q=>?_;obtain rfl:=Q.2
 have hx:=hx;have hw:=all_eq_true.mp E9 w Q.1;have h4:=Ez w;refine aQ (fF (m+1) p) λq hq=>?_
 unfold Nr at hw;rw[Z7]at hw;cases q4:cu w Ke with
 |true=>
  rw[q4]at h4 hw;simp only[if_true,Z7,Z5,decide_eq_false_iff_not]at hw;obtain⟨ts,ht,hl,hf⟩:=gC hF q 1 (by decide);refine⟨.doo w ts,?_,fk.doo (L0 [e] (.c 4) (.p 4 .x) rfl) (Ln [ts.length] (.w .x (.c 8)) [Ge .x (.c 1)] rfl hl) hw.1 (by refine Er hl ?_;exact hw.2.1) hf⟩;have nl:(w=d8)=False:=by simp only[eq_iff_iff,iff_false];exact hw.2.2
  exact aJ [.d 1 hx,.b 0 h4,.b 1 (show ag Cm.eq (str w) (str {cps:=#[(108:Nat),(105:Nat),(115:Nat),(116:Nat)]})=some false by simp only[fY,nl,YY]),.c 3 hq,.c 0 ht] rfl
 |false=>
  rw[q4]at h4 hw;simp only[false_eq_true,if_false]at hw
  by_cases ql:w=d8
  .have tl:(w=d8)=True:=by simp only[ql]
   obtain⟨y,hy,my⟩:=bZ (xs:=([0,1,2,3,8,5,1,2]:List Nat).map λ(k:Nat)=>int k) (r:=(p.fdiv 12).fmod 8) (fm (p.fdiv 12) 8 (by decide)).1 (fm (p.fdiv 12) 8 (by decide)).2;obtain⟨k,z⟩:=mem_map.mp my;obtain rfl:=z.2;have mk:=z.1;have k8:=(by decide:∀k∈([0,1,2,3,8,5,1,2]:List Nat),k<=8) k mk;have tk:br w k=true:=by unfold br;exact Er (YV ql) (Er (Y0 (by exact(Ln [k] (.i (.n .x) (.c 8)) [Gl .x (.c 8)] rfl k8))) rfl)
   by_cases q3:(3:Int)<k
   .obtain⟨ts,ht,hl,hf⟩:=gC OL q k (L1 [k] .x (.c 1000) .x (.c 8) rfl k8)
    refine⟨.doo w ts,?_,(fk.doo (by exact(L0 [] (.c 4) (.p 4 (.c 0)) rfl)) (Ln [ts.length,k] (.w .x (.c 8)) [Gl .y (.c 8),Ge .x .y] rfl k8 hl) hw.1 (by refine Er hl ?_;exact tk) hf).mono (L0 [e] (.p 1 (.p 4 (.c 0))) (.p 5 .x) rfl)⟩;exact aJ [.d 1 hx,.b 0 h4,.b 1 (show ag Cm.eq (str w) (str {cps:=#[(108:Nat),(105:Nat),(115:Nat),(116:Nat)]})=some true by simp only[fY,tl,YX]),.d 3 hy,.b 0 (show ag Cm.gt (int (↑k:Int)) (int (3:Int))=some true by simp only[gh,eq_true q3,YX]),.c 1 hq,.c 0 ht] rfl
   .obtain⟨ts,ht,hl,hf⟩:=gC hF q k (L1 [k] .x (.c 1000) .x (.c 8) rfl k8)
    refine⟨.doo w ts,?_,fk.doo (L0 [e] (.c 4) (.p 4 .x) rfl) (Ln [ts.length,k] (.w .x (.c 8)) [Gl .y (.c 8),Ge .x .y] rfl k8 hl) hw.1 (by refine Er hl ?_;exact tk) hf⟩;exact aJ [.d 1 hx,.b 0 h4,.b 1 (show ag Cm.eq (str w) (str {cps:=#[(108:Nat),(105:Nat),(115:Nat),(116:Nat)]})=some true by simp only[fY,tl,YX]),.d 3 hy,.b 0 (show ag Cm.gt (int (↑k:Int)) (int (3:Int))=some false by simp only[gh,(⟨q3,False.elim⟩:(3:Int)<k↔False),YY]),.c 1 hq,.c 0 ht] rfl
  .rw[YW ql]at hw
   have nl:(w=d8)=False:=by simp only[eq_iff_iff,iff_false];exact ql
   obtain⟨ts,ht,hl,hf⟩:=gC hF q 2 (by decide);refine⟨.doo w ts,?_,fk.doo (L0 [e] (.c 4) (.p 4 .x) rfl) (Ln [ts.length] (.w .x (.c 8)) [Ge .x (.c 2)] rfl hl) hw.1 (by refine Er hl ?_;exact hw.2) hf⟩;exact aJ [.d 1 hx,.b 0 h4,.b 1 (show ag Cm.eq (str w) (str {cps:=#[(108:Nat),(105:Nat),(115:Nat),(116:Nat)]})=some false by simp only[fY,nl,YY]),.c 3 hq,.c 0 ht] rfl
theorem mK {ns:List Str} {hs:List Hd} (cs:List (Str×Nat)) (m e:Nat) (p:Int) (h:e=0\/(p.fdiv 3).fmod 13<3):jY (λt=>cF P (m+2) false 30 [.fz (.int p),.fz (.int e),sN ns,sN kn,sH hs]=some (.ok (.fz (cM t)),[])) (λt=>fk ns cs 1 t):=by
 refine aQ (fF m p) λq hq=>?_
 obtain⟨d,hd,hv⟩:=wu m (q.fdiv 4);have hn:=y9 ns;have Pe:∀(X Y:Option (Except Str Rv×List Slot)),True:=λac az=>trivial
 have key:((e:Int)==0)=true\/(((e:Int)==0)=false/\(p.fdiv 3).fmod 13<3):=by
  by_cases q0:e=0
  .left;subst q0;rfl
  .right
   refine⟨?_,h.resolve_left q0⟩;have:¬((e:Int)=0):=by exact(λkO=>(Y4 (Nat.lt_or_gt_of_ne q0) (λe5=>(Lf [e] [Gk (.n .x) (.c 0),Gl (.p 1 .x) (.c 0)] rfl kO e5)) (λe5=>(Lf [e] [Gj (.n .x) (.c 0),Gl (.p 1 (.c 0)) .x] rfl kO e5))))
   simpa using this
 by_cases qn:ns=[]
 .have hn:=(Y0 qn)▸hn
  refine⟨.val d,?_,.val hv⟩
  rcases key with k0|⟨k0,k3⟩
  .exact aJ [.c 2 hq,.b 0 (show ag Cm.eq (int (↑e:Int)) (int (0:Int))=some true by simp only[er,cm,k0]),.b 2 (show ag Cm.ne (list (List.map str ns)) (list [])=some false by simp only[sK,hn,Y6,Bool.not_true]),.c 3 hd] rfl
  .exact aJ [.c 2 hq,.b 0 (show ag Cm.eq (int (↑e:Int)) (int (0:Int))=some false by simp only[er,cm,k0]),.b 1 (show ag Cm.lt (int ((p.fdiv (3:Int)).fmod (13:Int))) (int (3:Int))=some true by simp only[bz,eq_true k3,YX]),.b 1 (show ag Cm.ne (list (List.map str ns)) (list [])=some false by simp only[sK,hn,Y6,Bool.not_true]),.c 3 hd] rfl
 .have hn:=(Y1 qn)▸hn
  have lk:(((ns.map str).length:Nat):Int)=(ns.length:Int):=by rw[ZB]
  have nz:((ns.length:Int)=0)=False:=by simp only[eq_iff_iff,iff_false];exact(λxQ=>(Lf [ns.length] [Gl (.p 1 (.c 0)) .x,Gj (.n .x) (.c 0)] rfl (length_pos_iff.mpr qn) xQ))
  have hm:=fm (q.fdiv 4) ns.length (Ln [ns.length] (.i (.p 1 (.c 0)) (.n .x)) [Gl (.p 1 (.c 0)) .x] rfl (length_pos_iff.mpr qn));obtain⟨x,hx,mx⟩:=bZ (xs:=ns.map str) (r:=(q.fdiv 4).fmod ns.length) hm.1 (by refine Er lk ?_;exact hm.2);refine aQ (mem_map.mp mx) λx Q=>?_;obtain rfl:=Q.2;have mk:=Q.1
  by_cases q4:0<q.fmod 4
  .refine⟨.nam x,?_,.nam mk⟩
   rcases key with k0|⟨k0,k3⟩
   .exact aJ [.c 2 hq,.b 0 (show ag Cm.eq (int (↑e:Int)) (int (0:Int))=some true by simp only[er,cm,k0]),.b 2 (show ag Cm.ne (list (List.map str ns)) (list [])=some true by simp only[sK,hn,Y6,Bool.not_false]),.b 2 (show ag Cm.gt (int (q.fmod (4:Int))) (int (0:Int))=some true by simp only[gh,eq_true q4,YX]),.v 3 (show op2 lU.mod (int (q.fdiv (4:Int))) (int (↑(List.map str ns).length:Int))=some (Rv.fz (int ((q.fdiv (4:Int)).fmod (↑ns.length:Int)))) by simp only[lk,gH,nz,if_false]),.d 0 hx] rfl
   .exact aJ [.c 2 hq,.b 0 (show ag Cm.eq (int (↑e:Int)) (int (0:Int))=some false by simp only[er,cm,k0]),.b 1 (show ag Cm.lt (int ((p.fdiv (3:Int)).fmod (13:Int))) (int (3:Int))=some true by simp only[bz,eq_true k3,YX]),.b 1 (show ag Cm.ne (list (List.map str ns)) (list [])=some true by simp only[sK,hn,Y6,Bool.not_false]),.b 2 (show ag Cm.gt (int (q.fmod (4:Int))) (int (0:Int))=some true by simp only[gh,eq_true q4,YX]),.v 3 (show op2 lU.mod (int (q.fdiv (4:Int))) (int (↑(List.map str ns).length:Int))=some (Rv.fz (int ((q.fdiv (4:Int)).fmod (↑ns.length:Int)))) by simp only[lk,gH,nz,if_false]),.d 0 hx] rfl
  .have Mu:0<q.fmod 4↔False:=⟨q4,False.elim⟩
   refine⟨.val d,?_,.val hv⟩
   rcases key with k0|⟨k0,k3⟩
   .exact aJ [.c 2 hq,.b 0 (show ag Cm.eq (int (↑e:Int)) (int (0:Int))=some true by simp only[er,cm,k0]),.b 2 (show ag Cm.ne (list (List.map str ns)) (list [])=some true by simp only[sK,hn,Y6,Bool.not_false]),.b 2 (show ag Cm.gt (int (q.fmod (4:Int))) (int (0:Int))=some false by simp only[gh,Mu,YY]),.c 2 hd] rfl
   .exact aJ [.c 2 hq,.b 0 (show ag Cm.eq (int (↑e:Int)) (int (0:Int))=some false by simp only[er,cm,k0]),.b 1 (show ag Cm.lt (int ((p.fdiv (3:Int)).fmod (13:Int))) (int (3:Int))=some true by simp only[bz,eq_true k3,YX]),.b 1 (show ag Cm.ne (list (List.map str ns)) (list [])=some true by simp only[sK,hn,Y6,Bool.not_false]),.b 2 (show ag Cm.gt (int (q.fmod (4:Int))) (int (0:Int))=some false by simp only[gh,Mu,YY]),.c 2 hd] rfl
theorem fV {ns:List Str} {hs:List Hd} (hk:∀x∈kn,x∈ns) (hh:Mh cs hs):∀(e m:Nat),3*e+3<=m->iT ns kn hs cs m e
 |0=>@λm hm p=>by
  obtain⟨k,rfl⟩:∃k,m=k+2:=⟨m-2,by exact((Za (n:=m) (m:=2) (L1 [m] (.c 2) .x (.p 3 (.m 3 (.c 0))) .x rfl hm)).symm)⟩
  obtain⟨t,a,b⟩:=mK (ns:=ns) (kn:=kn) (hs:=hs) cs k 0 p (.inl rfl);exact⟨t,a,b.mono (L0 [] (.c 1) (.p 4 (.c 0)) rfl)⟩
 |e+1=>@λm hm p=>by
  obtain⟨k,rfl⟩:∃k,m=k+4:=⟨m-4,by exact((Za (n:=m) (m:=4) (L1 [m,e] (.c 4) .x (.p 3 (.m 3 (.p 1 .y))) .x rfl hm)).symm)⟩
  by_cases q3:(p.fdiv 3).fmod 13<3
  .obtain⟨t,a,b⟩:=mK (ns:=ns) (kn:=kn) (hs:=hs) cs (k+2) (e+1) p (.inr q3)
   exact⟨t,a,b.mono (L0 [e] (.c 1) (.p 4 (.p 1 .x)) rfl)⟩
  have Cs:(p.fdiv 3).fmod 13<3↔False:=⟨q3,False.elim⟩
  have k0:=JS e;have ee:((e+1:Nat):Int)-1=(e:Int):=by exact(Le [e] (.j (.s (.n (.p 1 .x)) (.c 1)) (.n .x)) [] rfl)
  refine aQ (fF (k+2) p) λq hq=>?_
  by_cases q6:(p.fdiv 3).fmod 13<6
  .obtain⟨ts,ht,hl,hf⟩:=gC (m:=k+1) (fV hk hh e (k+2) (L1 [e,k] (.p 3 (.m 3 .x)) (.p 2 .y) (.p 3 (.m 3 (.p 1 .x))) (.p 4 .y) rfl hm)) q 3 (by decide)
   have ht:cF P (k+3) false 27 [.fz (.int q),.fz (.int 3),.fz (.int e),sN ns,sN kn,sH hs]=some (.ok (.fz (.tuple (bj ts))),[]):=ht;refine⟨.iff ts,?_,fk.iff (L0 [e] (.c 4) (.p 4 .x) rfl) hl hf⟩;have hz:([S [105,102]]:List D).length+(bj ts).length<=Sz:=by rw[fX];refine Er hl ?_;decide
   exact aJ [.c 2 hq,.b 2 (show ag Cm.lt (int ((p.fdiv (3:Int)).fmod (13:Int))) (int (3:Int))=some false by simp only[bz,Cs,YY]),.b 1 (show ag Cm.lt (int ((p.fdiv (3:Int)).fmod (13:Int))) (int (6:Int))=some true by simp only[bz,eq_true q6,YX]),.c 2 (show cF P (k+(3:Nat)) false (27:Nat) [Slot.fz (int q),Slot.fz (int (3:Int)),Slot.fz (int ((↑(e+(1:Nat)):Int)-(1:Int))),Slot.fz (list (List.map str ns)),Slot.fz (list (List.map str kn)),Slot.fz (list (List.map dM hs))]=some (Except.ok (Rv.fz (tuple (bj ts))),[]) by simp only[ee,ht]),.v 0 (show op2 lU.add (tuple [str {cps:=#[(105:Nat),(102:Nat)]}]) (tuple (bj ts))=some (Rv.fz (tuple ([str {cps:=#[(105:Nat),(102:Nat)]}]++bj ts))) by simp only[Ej,eq_true hz,if_true])] rfl
  have KG:(p.fdiv 3).fmod 13<6↔False:=⟨q6,False.elim⟩
  by_cases q9:(p.fdiv 3).fmod 13<9
  .obtain⟨t,ht,hf⟩:=I0 (m:=k) (fV hk hh e (k+1) (L1 [e,k] (.p 3 (.m 3 .x)) (.p 1 .y) (.p 3 (.m 3 (.p 1 .x))) (.p 4 .y) rfl hm)) (fV hk hh 0 (k+1) (L1 [k,e] (.p 3 (.m 3 (.c 0))) (.p 1 .x) (.p 3 (.m 3 (.p 1 .y))) (.p 4 .x) rfl hm)) q
   refine⟨t,?_,hf⟩;exact aJ [.c 2 hq,.b 2 (show ag Cm.lt (int ((p.fdiv (3:Int)).fmod (13:Int))) (int (3:Int))=some false by simp only[bz,Cs,YY]),.b 1 (show ag Cm.lt (int ((p.fdiv (3:Int)).fmod (13:Int))) (int (6:Int))=some false by simp only[bz,KG,YY]),.b 1 (show ag Cm.lt (int ((p.fdiv (3:Int)).fmod (13:Int))) (int (9:Int))=some true by simp only[bz,eq_true q9,YX]),.c 2 (show cF P (k+(3:Nat)) false (29:Nat) [Slot.fz (int q),Slot.fz (int ((↑(e+(1:Nat)):Int)-(1:Int))),Slot.fz (list (List.map str ns)),Slot.fz (list (List.map str kn)),Slot.fz (list (List.map dM hs))]=some (Except.ok (Rv.fz (cM t)),[]) by simp only[ee,ht])] rfl
  by_cases MA:(p.fdiv 3).fmod 13<12
  .obtain⟨t,ht,hf⟩:=B6 (m:=k) (fV hk hh e (k+2) (L1 [e,k] (.p 3 (.m 3 .x)) (.p 2 .y) (.p 3 (.m 3 (.p 1 .x))) (.p 4 .y) rfl hm)) hk hh q
   refine⟨t,?_,hf⟩;exact aJ [.c 2 hq,.b 2 (show ag Cm.lt (int ((p.fdiv (3:Int)).fmod (13:Int))) (int (3:Int))=some false by simp only[bz,Cs,YY]),.b 1 (show ag Cm.lt (int ((p.fdiv (3:Int)).fmod (13:Int))) (int (6:Int))=some false by simp only[bz,KG,YY]),.b 1 (show ag Cm.lt (int ((p.fdiv (3:Int)).fmod (13:Int))) (int (9:Int))=some false by simp only[bz,(⟨q9,False.elim⟩:(p.fdiv 3).fmod 13<9↔False),YY]),.b 1 (show ag Cm.lt (int ((p.fdiv (3:Int)).fmod (13:Int))) (int (12:Int))=some true by simp only[bz,eq_true MA,YX]),.c 2 (show cF P (k+(3:Nat)) false (28:Nat) [Slot.fz (int q),Slot.fz (int ((↑(e+(1:Nat)):Int)-(1:Int))),Slot.fz (list (List.map str ns)),Slot.fz (list (List.map str kn)),Slot.fz (list (List.map dM hs))]=some (Except.ok (Rv.fz (cM t)),[]) by simp only[ee,ht])] rfl
  obtain⟨x,hx,mx⟩:=bZ (xs:=eQ.map str) (r:=q.fmod 6) (fm q 6 (by decide)).1 (fm q 6 (by decide)).2;obtain⟨x,Q⟩:=mem_map.mp mx;obtain rfl:=Q.2;have hx:=hx;refine⟨.ref x,?_,(fk.ref Q.1).mono (by exact(L0 [e] (.c 1) (.p 4 (.p 1 .x)) rfl))⟩;exact aJ [.c 2 hq,.b 2 (show ag Cm.lt (int ((p.fdiv (3:Int)).fmod (13:Int))) (int (3:Int))=some false by simp only[bz,Cs,YY]),.b 1 (show ag Cm.lt (int ((p.fdiv (3:Int)).fmod (13:Int))) (int (6:Int))=some false by simp only[bz,KG,YY]),.b 1 (show ag Cm.lt (int ((p.fdiv (3:Int)).fmod (13:Int))) (int (9:Int))=some false by simp only[bz,(⟨q9,False.elim⟩:(p.fdiv 3).fmod 13<9↔False),YY]),.b 1 (show ag Cm.lt (int ((p.fdiv (3:Int)).fmod (13:Int))) (int (12:Int))=some false by simp only[bz,(⟨MA,False.elim⟩:(p.fdiv 3).fmod 13<12↔False),YY]),.d 2 hx] rfl
theorem xA (nd:l.Nodup) {i:Nat} (hi:i<l.length) (hj:j<l.length) (h:i≠j):l.getD i ⟨#[]⟩≠l.getD j ⟨#[]⟩:=by
 refine Er (ZH) (Er (ZH) (Er (ZG hi) (Er (ZG hj) ?_)));have q:=List.pairwise_iff_getElem.mp nd;show l[i]≠l[j]
 rcases Nat.lt_or_gt_of_ne h with l7|l7
 .exact q _ _ hi hj l7
 .exact λe=>q _ _ hj hi l7 e.symm
theorem og {i:Nat} (hi:i<l.length):l.getD i ⟨#[]⟩∈l:=by
 exact Er (ZH) (Er (ZG hi) (getElem_mem hi))
theorem n6 {i:Nat} (hi:i<l.length):aW (l.map str) (i:Int)=some (.str (l.getD i ⟨#[]⟩)):=by
 unfold aW;rw[YV (ZS _),ZR,ZF];refine Er (ZH) ?_;refine Er (ZG hi) ?_
 rfl
structure FW (l:List Str) (h:Hd):Prop where
 wn:h.wn.length=h.ps.length
 le:h.ps.length<=6
 nd:h.ps.Nodup
 mem:∀x∈h.ps,x∈l
noncomputable abbrev MB:Ex:=.idx (aa 1) (.op2 .mod (.op2 .add (.op2 .add (ai 2) (aa 3)) (aa 9)) (ai 12))
noncomputable abbrev AM (l:List Str) (k:Nat) (js:List Nat):List Str:=js.map λj=>l.getD ((2+k+j) % 12) ⟨#[]⟩
theorem tv (n:Nat) (l:List Str) (hl:l.length=12) (k:Nat) (a0 a2 a4 a5 a6 a7 a8:Slot):∀(js:List Nat) (s9:Slot),aZ ⟨P.glob,cF P n,[],false⟩ [a0,sN l,a2,.fz (.int (0+k)),a4,a5,a6,a7,a8,s9] MB (.one 9) [] (js.map λ(j:Nat)=>.int (0+j))=some (.ok ((AM l k js).map .str),[a0,sN l,a2,.fz (.int (0+k)),a4,a5,a6,a7,a8,.no]):=by
 intro js
 induction js with
 |nil=>exact @λs9=>by refine Er Zr ?_;rw[bc];rfl
 |cons j js ih=>
  intro s9;have hx:aW (l.map str) ((2+(0+(k:Int))+(0+(j:Int))).fmod 12)=some (.str (l.getD ((2+k+j) % 12) ⟨#[]⟩)):=by
   have e:(2+(0+(k:Int))+(0+(j:Int))).fmod 12=(((2+k+j) % 12:Nat):Int):=by
    refine Er (Int.fmod_eq_emod_of_nonneg _ (by decide)) ?_;rw[ZP,ZP,Int.natCast_emod,natCast_add,natCast_add];rfl
   exact Er e (n6 (by refine Er hl ?_;exact mod_lt _ (by decide)))
  exact Er Zt (mq [.d 3 hx,.cp 0 ((ih (.fz (.int (0+j)))))] rfl)
noncomputable abbrev Km:List St:=[.asg (.one 8) (.cmp .eq (.op2 .mod (.op2 .fdiv (aa 4) (.idx (.list [ai 7,ai 14,ai 28,ai 56,ai 112,ai 224]) (aa 7))) (ai 2)) (ai 1)),
    .app (.var 6) (.and [aa 8,.cmp .lt (.bi .count [(.pl (.var 6)),(.lit (.bool true))]) (ai 2)])]
theorem v4:∀l:List Bool,gi (l.map .bool)=some l:=by
 intro l
 induction l with
 |nil=>exact rfl
 |cons b l ih=>
  show(gi (l.map .bool)).map _=_
  refine Er ih ?_;rfl
theorem z9 (n:Nat) (c:Int) (a0 a1 a2 a3 a5 a9:Slot):∀(js:List Nat) (aE:List Bool) (s7 s8:Slot),(∀j∈js,j<6)->aE.length+js.length<=1000->jY (λbs=>dL ⟨P.glob,cF P n,[],false⟩ [a0,a1,a2,a3,.fz (.int c),a5,.own (.list (aE.map .bool)),s7,s8,a9] (.one 7) Km [7,8] (js.map λ(j:Nat)=>.int (0+j))=some (.ok .next,[a0,a1,a2,a3,.fz (.int c),a5,.own (.list ((aE++bs).map .bool)),.no,.no,a9])) (λbs=>bs.length=js.length):=by
 intro js
 induction js with
 |nil=>exact @λaE s7 s8 ac az=>⟨[],by refine Er Zr ?_;rw[cQ,ZL];rfl,rfl⟩
 |cons j js IH=>
  intro aE s7 s8 hj hl;obtain⟨y,hy,my⟩:=bZ (xs:=[int 7,.int 14,.int 28,.int 56,.int 112,.int 224]) (r:=0+(j:Int)) (Ln [j] (.i (.c 0) (.a (.c 0) (.n .x))) [] rfl) (by show _<(6:Int);exact(Ln [j] (.i (.p 1 (.a (.c 0) (.n .x))) (.c 6)) [Gl (.p 1 .x) (.c 6)] rfl (hj j Zn)));have:∃z:Int,y = .int z/\(z≠0/\z.natAbs<2 ^ 64):=by
   simp only[mem_cons,not_mem_nil,or_false]at my
   rcases my with rfl|rfl|rfl|rfl|rfl|rfl<;>exact⟨_,rfl,by decide,by decide⟩
  obtain⟨z,this⟩:=this;obtain rfl:=this.1;have hsz:(aE.map PyData.bool).length<Sz:=by rw[ZB];simp only[ZD]at hl;show aE.length<16777216;exact(L1 [aE.length,js.length] (.p 1 .x) (.c 16777216) (.a .x (.p 1 .y)) (.c 1000) rfl hl)
  have df:∀b:Bool,(aE++[b]).length+js.length<=1000:=λb=>by simp only[ZE,ZD,length_nil]at *;exact(L1 [aE.length,js.length] (.a (.a .x (.p 1 (.c 0))) .y) (.c 1000) (.a .x (.p 1 .y)) (.c 1000) rfl hl)
  by_cases qb:(c.fdiv z).fmod 2=1
  .obtain⟨bs,ih,hb⟩:=IH (aE++[decide (((aE.count true:Nat):Int)<2)]) (.fz (.int (0+j))) (.fz (.bool true)) (hG hj) (df _)
   refine⟨decide (((aE.count true:Nat):Int)<2)::bs,?_,by refine Er ZD ?_;refine Er ZD ?_;exact Er hb rfl⟩;rw[Zu,ZM]at ih;exact mn [.d 0 hy,.v 0 (show op2 lU.fdiv (int c) (int z)=some (Rv.fz (int (c.fdiv z))) by simp only[nR,ne_eq,this.2,not_false_eq_true,Nat.reducePow,and_self,if_true]),.b 1 (show ag Cm.eq (int ((c.fdiv z).fmod (2:Int))) (int (1:Int))=some true by simp only[qb,dY,YX]),.v 1 (show dD Bi.count [list (List.map PyData.bool aE),PyData.bool true]=some (Rv.fz (int (↑(List.count true aE):Int))) by simp only[Cd,(v4 aE),Y6]),.b 0 (show ag Cm.lt (int (↑(List.count true aE):Int)) (int (2:Int))=some (decide ((↑(List.count true aE):Int)<(2:Int))) by simp only[bz]),.t 0 (show decide ((List.map PyData.bool aE).length<Sz)=true by simp only[hsz,YX]),.lp 0 ih] rfl
  .obtain⟨bs,ih,hb⟩:=IH (aE++[false]) (.fz (.int (0+j))) (.fz (.bool false)) (hG hj) (df _)
   refine⟨false::bs,?_,by refine Er ZD ?_;refine Er ZD ?_;exact Er hb rfl⟩;rw[Zu,ZM]at ih;exact mn [.d 0 hy,.v 0 (show op2 lU.fdiv (int c) (int z)=some (Rv.fz (int (c.fdiv z))) by simp only[nR,ne_eq,this.2,not_false_eq_true,Nat.reducePow,and_self,if_true]),.b 1 (show ag Cm.eq (int ((c.fdiv z).fmod (2:Int))) (int (1:Int))=some false by simp only[dY,qb,YY]),.t 1 (show decide ((List.map PyData.bool aE).length<Sz)=true by simp only[hsz,YX]),.lp 0 ih] rfl
noncomputable abbrev CK:List St:=[.asg (.one 4) (.call 21 [aa 0,.op2 .add (ai 2) (aa 3)]),
   .asg (.one 5) (.idx (.list [ai 1,ai 2,ai 3,ai 2,ai 0,ai 6,ai 3]) (.op2 .mod (aa 4) (ai 7))),
   .asg (.one 6) (.list []),
   .for_ (.one 7) .range [aa 5] Km [7,8],
   .app (.var 2) (.tup [.idx (aa 1) (aa 3),.bi .tuple [(.comp MB (.one 9) .range [aa 5] [])],.bi .tuple [(.pl (.var 6))]])]
theorem vh (n:Nat) (xs:List Int) (l:List Str) (hn:ik l):∀(ks:List Nat) (aE:List Hd) (s1 s3 s4 s5 s6 s7 s8 s9:Slot),(s1 = .own (.list (l.map .str))\/s1=sN l)->(∀k∈ks,k<12)->aE.length+ks.length<=1000->FZ (λhs wT=>dL ⟨P.glob,cF P (n+1),[],false⟩ [.fz (.list (xs.map .int)),s1,.own (.list (aE.map dM)),s3,s4,s5,s6,s7,s8,.no] (.one 3) CK [3,4,5,6,7,8] (ks.map λ(k:Nat)=>.int (0+k))=some (.ok .next,[.fz (.list (xs.map .int)),wT,.own (.list ((aE++hs).map dM)),.no,.no,.no,.no,.no,.no,.no])) (λhs wT=>hs.map (·.nm)=(ks.map λk=>l.getD k ⟨#[]⟩)) (λhs wT=> ∀h∈hs,FW l h):=by
 intro ks
 induction ks with
 |nil=>exact @λaE s1 s3 s4 s5 s6 s7 s8 s9 h1 ac az=>⟨[],s1,by refine Er Zr ?_;rw[cQ,ZL];rfl,rfl,λt h=>by cases h⟩
 |cons k ks IH=>
  intro aE s1 s3 s4 s5 s6 s7 s8 s9 h1 hk hl;refine aQ (cell n xs (2+(0+(k:Int))) (Ln [k] (.i (.c 0) (.a (.c 2) (.a (.c 0) (.n .x)))) [] rfl)) λc hc=>?_
  obtain⟨y,hy,my⟩:=bZ (xs:=([1,2,3,2,0,6,3]:List Nat).map λ(k:Nat)=>int k) (r:=c.fmod 7) (fm c 7 (by decide)).1 (fm c 7 (by decide)).2;obtain⟨m,Q⟩:=mem_map.mp my;obtain rfl:=Q.2;have m6:=(by decide:∀k∈([1,2,3,2,0,6,3]:List Nat),k<=6) m Q.1;have hr:=eU m (L1 [m] .x (.c 1000) .x (.c 6) rfl m6);have hx:aW (l.map str) (0+(k:Int))=some (.str (l.getD k ⟨#[]⟩)):=by rw[ZP];exact n6 (by refine Er hn.len ?_;exact(hk k Zn))
  have hsz:(aE.map dM).length<Sz:=by rw[ZB];simp only[ZD]at hl;show aE.length<16777216;exact(L1 [aE.length,ks.length] (.p 1 .x) (.c 16777216) (.a .x (.p 1 .y)) (.c 1000) rfl hl)
  have wl:∀a1 a2 a9, ∃bs:List Bool,dL ⟨P.glob,cF P (n+1),[],false⟩ [.fz (.list (xs.map .int)),a1,a2,.fz (.int (0+k)),.fz (.int c),.fz (.int m),.own (.list []),.no,.no,a9] (.one 7) Km [7,8] ((List.range m).map λ(j:Nat)=>.int (0+j))=some (.ok .next,[.fz (.list (xs.map .int)),a1,a2,.fz (.int (0+k)),.fz (.int c),.fz (.int m),.own (.list (bs.map .bool)),.no,.no,a9])/\bs.length=(List.range m).length:=λa1 a2 a9=>let ⟨bs,q1,q2⟩:=z9 (n+1) c (.fz (.list (xs.map .int))) a1 a2 (.fz (.int (0+k))) (.fz (.int m)) a9 (List.range m) [] .no .no (λj hj=>by have:=mem_range.mp hj;exact(Ln [j,m] (.w (.p 1 .x) (.c 6)) [Gl .y (.c 6),Gl (.p 1 .x) .y] rfl m6 this)) (by refine Er ZA ?_;show 0+m<=1000;exact(L1 [m] (.a (.c 0) .x) (.c 1000) .x (.c 6) rfl m6));⟨bs,q1,q2⟩
  refine aQ (wl s1 (.own (.list (aE.map dM))) .no) λbs q=>?_
  have hok:FW l ⟨l.getD k ⟨#[]⟩,AM l k (List.range m),bs⟩:=by
   refine⟨by refine Er q.2 ?_;rw[ZB],by rw[ZB];refine Er ZA ?_;exact m6,?_,λx hx=>?_⟩
   .refine pairwise_map.mpr (Pairwise.imp_of_mem ?_ List.pairwise_lt_range)
    intro a b ha hb By;have ha:=mem_range.mp ha;have hb:=mem_range.mp hb;exact xA hn.nd (by refine Er hn.len ?_;exact mod_lt _ (by decide)) (by refine Er hn.len ?_;exact mod_lt _ (by decide)) (xV By (Ln [b,m] (.w (.p 1 .x) (.c 12)) [Gl .y (.c 6),Gl (.p 1 .x) .y] rfl m6 hb))
   .obtain⟨j,_,rfl⟩:=mem_map.mp hx
    exact og (by refine Er hn.len ?_;exact mod_lt _ (by decide))
  obtain⟨hs,wT,ih,hm,hf⟩:=IH (aE++[⟨l.getD k ⟨#[]⟩,AM l k (List.range m),bs⟩]) (sN l) (.fz (.int (0+k))) (.fz (.int c)) (.fz (.int m)) (.own (.list (bs.map .bool))) .no .no .no (.inr rfl) (hG hk) (by simp only[ZE,ZD,length_nil]at *;exact(L1 [aE.length,ks.length] (.a (.a .x (.p 1 (.c 0))) .y) (.c 1000) (.a .x (.p 1 .y)) (.c 1000) rfl hl));refine⟨⟨l.getD k ⟨#[]⟩,AM l k (List.range m),bs⟩::hs,wT,?_,by exact Er Zt (Er Zt (Er hm rfl)),λh hh=>?_⟩
  .rw[Zu,ZM]at ih
   refine Er Zt ?_
   rcases h1 with rfl|rfl
   .exact mn [.c 1 hc,.d 1 hy,.l 0 (show cj iU.range [int (↑m:Int)]=some (List.map (λ(k:Nat)=>int ((0:Int)+(↑k:Int))) (List.range m)) by simp only[cA,reduceNeg,hr]),.lp 0 (q.1),.d 0 hx,.l 0 (show cj iU.range [int (↑m:Int)]=some (List.map (λ(k:Nat)=>int ((0:Int)+(↑k:Int))) (List.range m)) by simp only[cA,reduceNeg,hr]),.cp 0 ((tv (n+1) l hn.len k (.fz (.list (xs.map .int))) (.own (.list (aE.map dM))) (.fz (.int c)) (.fz (.int m)) (.own (.list (bs.map .bool))) .no .no (List.range m) .no)),.t 2 (show decide ((List.map dM aE).length<Sz)=true by simp only[hsz,YX]),.lp 0 ih] rfl
   .exact mn [.c 1 hc,.d 1 hy,.l 0 (show cj iU.range [int (↑m:Int)]=some (List.map (λ(k:Nat)=>int ((0:Int)+(↑k:Int))) (List.range m)) by simp only[cA,reduceNeg,hr]),.lp 0 (q.1),.d 0 hx,.l 0 (show cj iU.range [int (↑m:Int)]=some (List.map (λ(k:Nat)=>int ((0:Int)+(↑k:Int))) (List.range m)) by simp only[cA,reduceNeg,hr]),.cp 0 ((tv (n+1) l hn.len k (.fz (.list (xs.map .int))) (.own (.list (aE.map dM))) (.fz (.int c)) (.fz (.int m)) (.own (.list (bs.map .bool))) .no .no (List.range m) .no)),.t 2 (show decide ((List.map dM aE).length<Sz)=true by simp only[hsz,YX]),.lp 0 ih] rfl
  .rcases mem_cons.mp hh with rfl|hh
   .exact hok
   .exact hf h hh
structure eF (l:List Str) (hs:List Hd):Prop where
 nm:ik l
 pos:1<=hs.length
 le:hs.length<=4
 nms:hs.map (·.nm)=(List.range hs.length).map λk=>l.getD k ⟨#[]⟩
 ok:∀h∈hs,FW l h
theorem yD (n:Nat) (xs:List Int):∃l hs r,cF P (n+2) false 31 [.fz (.list (xs.map .int))]=some (.ok r,[])/\eF l hs/\(r = .own (.list (hs.map dM))\/r = .fz (.list (hs.map dM))):=by
 refine aQ (cell n xs 0 (by decide)) λc0 Nf=>?_
 refine aQ (cell n xs 1 (by decide)) λc1 LI=>?_
 obtain⟨l,r,hr,hn,ho⟩:=xC n c0;have h4:=fm c1 4 (by decide);have e4:1+c1.fmod 4=(((1+c1.fmod 4).toNat:Nat):Int):=by exact((ZQ (a:=(1:Int)+c1.fmod (4:Int)) (Li [c1.fmod (4:Int)] (.i (.c 0) (.a (.c 1) .x)) [Gi (.c 0) .x] rfl h4.1)).symm)
 generalize hk:(1+c1.fmod 4).toNat=k at e4;have k4:1<=k/\k<=4:=by exact⟨(d7 [k] [c1.fmod (4:Int)] 1 (.w (.c 1) .x) [Gi (.c 0) .x,Gj (.a (.c 1) .x) (.n .x)] rfl h4.1 e4),(d7 [k] [c1.fmod (4:Int)] 1 (.w .x (.c 4)) [Gi (.p 1 .x) (.c 4),Gk (.a (.c 1) .x) (.n .x)] rfl h4.2 e4)⟩
 have Gv:∀s1,(s1 = .own (.list (l.map .str))\/s1=sN l)-> ∃(hs:List Hd) (wT:Slot),dL ⟨P.glob,cF P (n+1),[],false⟩ [.fz (.list (xs.map .int)),s1,.own (.list []),.no,.no,.no,.no,.no,.no,.no] (.one 3) CK [3,4,5,6,7,8] ((List.range k).map λ(k:Nat)=>.int (0+k))=some (.ok .next,[.fz (.list (xs.map .int)),wT,.own (.list (hs.map dM)),.no,.no,.no,.no,.no,.no,.no])/\eF l hs:=λs1 h1=>by
  obtain⟨hs,wT,ih,hm,hf⟩:=vh n xs l hn (List.range k) [] s1 .no .no .no .no .no .no .no h1 (λj hj=>by have:=mem_range.mp hj;exact(Ln [j,k] (.w (.p 1 .x) (.c 12)) [Gl .y (.c 4),Gl (.p 1 .x) .y] rfl k4.2 this)) (by refine Er ZA ?_;show 0+k<=1000;exact(L1 [k] (.a (.c 0) .x) (.c 1000) .x (.c 4) rfl k4.2));have hl:hs.length=k:=by have:=Y2 length hm;rw[ZB,ZB,ZA]at this;exact this
  exact⟨hs,wT,ih,hn,by exact(Ln [hs.length,k] (.w (.c 1) .x) [Gl (.c 1) .y,Gf .x .y] rfl k4.1 hl),by exact(Ln [hs.length,k] (.w .x (.c 4)) [Gl .y (.c 4),Ge .x .y] rfl k4.2 hl),by refine Er hl ?_;exact hm,hf⟩
 rcases ho with rfl|rfl
 .obtain⟨hs,wT,ih,ok⟩:=Gv (.own (.list (l.map .str))) (.inl rfl)
  refine⟨l,hs,.fz (.list (hs.map dM)),?_,ok,.inr rfl⟩;exact aJ [.c 0 Nf,.c 0 hr,.c 0 LI,.l 2 (show cj iU.range [int ((1:Int)+c1.fmod (4:Int))]=some (List.map (λ(k:Nat)=>int ((0:Int)+(↑k:Int))) (List.range k)) by simp only[e4,cA,reduceNeg,(eU k (L1 [k] .x (.c 1000) .x (.c 4) rfl k4.2))]),.lp 0 ih] rfl
 .obtain⟨hs,wT,ih,ok⟩:=Gv (sN l) (.inr rfl)
  refine⟨l,hs,.fz (.list (hs.map dM)),?_,ok,.inr rfl⟩;exact aJ [.c 0 Nf,.c 0 hr,.c 0 LI,.l 2 (show cj iU.range [int ((1:Int)+c1.fmod (4:Int))]=some (List.map (λ(k:Nat)=>int ((0:Int)+(↑k:Int))) (List.range k)) by simp only[e4,cA,reduceNeg,(eU k (L1 [k] .x (.c 1000) .x (.c 4) rfl k4.2))]),.lp 0 ih] rfl
noncomputable abbrev iN (hs:List Hd):List (Str×Nat):=hs.map λh=>(h.nm,h.ps.length)
theorem eF.nd {hs:List Hd} (h:eF l hs):(hs.map (·.nm)).Nodup:=by
 refine Er h.nms ?_;refine pairwise_map.mpr (Pairwise.imp_of_mem ?_ List.pairwise_lt_range);intro a b ha hb By;have ha:=mem_range.mp ha;have hb:=mem_range.mp hb;have:=h.le;exact xA h.nm.nd (by refine Er h.nm.len ?_;exact(Ln [a,hs.length] (.w (.p 1 .x) (.c 12)) [Gl (.p 1 .x) .y,Gl .y (.c 4)] rfl ha this)) (by refine Er h.nm.len ?_;exact(Ln [b,hs.length] (.w (.p 1 .x) (.c 12)) [Gl (.p 1 .x) .y,Gl .y (.c 4)] rfl hb this)) (λe6=>(Lf [a,b] [Gl (.p 1 .x) .y,Gf .x .y] rfl By e6))
theorem eF.mem {hs:List Hd} (h:eF l hs):∀x∈hs.map (·.nm),x∈l:=by
 refine Er h.nms ?_;intro x hx;obtain⟨k,hk,rfl⟩:=mem_map.mp hx;have:=mem_range.mp hk;have:=h.le;exact og (by refine Er h.nm.len ?_;exact(Ln [k,hs.length] (.w (.p 1 .x) (.c 12)) [Gl (.p 1 .x) .y,Gl .y (.c 4)] rfl ‹k<hs.length› this))
theorem BU:∀ {hs:List Hd},(hs.map (·.nm)).Nodup-> ∀h∈hs,cnt (iN hs) h.nm=some h.ps.length:=by
 intro hs
 induction hs with
 |nil=>exact @λac h m=>by cases m
 |cons g hs ih=>
  intro nd h m;rw[Zt,nodup_cons]at nd;unfold cnt iN;refine Er Zt (Er (find?_cons) ?_)
  by_cases q:g.nm=h.nm
  .refine Er (Y0 q) ?_
   rcases mem_cons.mp m with rfl|m
   .rfl
   .exact absurd (mem_map.mpr ⟨h,m,q.symm⟩) nd.1
  .refine Er (Y1 q) ?_
   rcases mem_cons.mp m with rfl|m
   .exact absurd rfl q
   .exact ih nd.2 h m
theorem eF.hok {hs:List Hd} (h:eF l hs):Mh (iN hs) hs:=⟨λe=>(by have:=h.pos;have this:=e▸this;cases this),λg hg=>(h.ok g hg).wn,λg hg=>(h.ok g hg).le,λg hg=>BU h.nd g hg⟩
noncomputable abbrev oH:Hd:=⟨⟨#[]⟩,[],[]⟩
theorem Lp {hs:List Hd} (hk:k<hs.length):aW (hs.map dM) (0+(k:Int))=some (dM (hs.getD k oH))/\hs.getD k oH∈hs:=by
 unfold aW;rw[ZP,YV (ZS _),ZR,ZF];exact Er (ZH) (Er (ZG hk) (⟨rfl,getElem_mem hk⟩))
theorem Ba (n:Nat) (ps:List Str) (wn:List Bool) (hw:wn.length=ps.length) (a0 a1 a2 a3 a4 a7 a8 a9 Kj Ki:Slot):∀(js:List Nat) (Kx:Slot),(∀j∈js,j<ps.length)-> ∃kn:List Str,aZ ⟨P.glob,cF P n,[],false⟩ [a0,a1,a2,a3,a4,.fz (.tuple (ps.map .str)),.fz (.tuple (wn.map .bool)),a7,a8,a9,Kj,Ki,Kx] (.idx (aa 5) (aa 12)) (.one 12) [.idx (aa 6) (aa 12)] (js.map λ(j:Nat)=>.int (0+j))=some (.ok (kn.map .str),[a0,a1,a2,a3,a4,.fz (.tuple (ps.map .str)),.fz (.tuple (wn.map .bool)),a7,a8,a9,Kj,Ki,.no])/\ ∀x∈kn,x∈ps:=by
 intro js
 induction js with
 |nil=>exact @λKx ac=>⟨[],by rw[Zr,bc];rfl,λx h=>by cases h⟩
 |cons j js ih=>
  intro Kx hj;have j1:=hj j Zn;refine aQ (wj wn j (Ln [j,wn.length,ps.length] (.w (.p 1 .x) .y) [Gf .y .z,Gl (.p 1 .x) .z] rfl hw j1)) λb hb=>?_
  have hx:aW (ps.map str) (0+(j:Int))=some (.str (ps.getD j ⟨#[]⟩)):=by rw[ZP];exact n6 j1
  refine aQ (ih (.fz (.int (0+j))) (hG hj)) λkn q=>?_
  cases b with
  |true=>
   refine⟨ps.getD j ⟨#[]⟩::kn,?_,λx hx=>?_⟩
   .exact Er Zt (mq [.d 0 hb,.d 1 hx,.cp 0 (q.1)] rfl)
   .rcases mem_cons.mp hx with rfl|hx
    .exact og j1
    .exact q.2 x hx
  |false=>
   refine⟨kn,?_,q.2⟩;exact Er Zt (mq [.d 0 hb,.cp 1 (q.1)] rfl)
noncomputable abbrev w2:List St:=[.asg (.tup [4,5,6]) (.idx (aa 1) (aa 3)),
   .asg (.one 7) (.comp (.idx (aa 5) (aa 12)) (.one 12) .range [.bi .len [aa 5]] [.idx (aa 6) (aa 12)]),
   .asg (.one 8) (.call 22 [(.op2 .add (.op2 .mul (.call 21 [aa 0,.op2 .add (ai 6) (aa 3)]) (ai 977)) (aa 3))]),
   .asg (.one 9) (.call 30 [aa 8,(.op2 .add (ai 1) (.op2 .mod (.op2 .fdiv (.call 21 [aa 0,ai 10]) (.op2 .add (aa 3) (ai 1))) (ai 3))),.bi .list [aa 5],aa 7,aa 1]),
   .iff (.and [(.cmp .gt (.op2 .mod (.op2 .fdiv (.call 21 [aa 0,ai 11]) (.op2 .add (aa 3) (ai 1))) (ai 3)) (ai 0)),.cmp .gt (.bi .len [aa 5]) (ai 0)]) [.asg (.one 10) (.call 22 [.op2 .add (aa 8) (ai 31)]),
    .asg (.one 11) (.tup [.lit (S [110,97,109,101]),.idx (aa 5) (.op2 .mod (aa 10) (.bi .len [aa 5]))]),
    .iff (.cmp .eq (.op2 .mod (.op2 .fdiv (aa 10) (ai 8)) (ai 2)) (ai 1)) [.asg (.one 11) (.tup [.lit (S [100,111]),.lit (S [101,109,112,116,121]),.tup [aa 11]])] [],
    .asg (.one 9) (.tup [.lit (S [105,102]),aa 11,aa 9,.call 30 [aa 10,ai 2,(.bi .list [aa 5]),aa 7,aa 1]])] [],
   .app (.var 2) (.tup [aa 4,aa 5,aa 9])]
inductive zS (n:Nat) (xs:List Int) (hs:List Hd) (h:Hd) (k:Nat) (aE:List Fun) (s3 s4 s5 s6 s7 s8 s9 AI AH:Slot) (rest:List D):Prop
 |mk (t:T) (NN NM NL NK NJ NI Kz Ky:Slot):fk h.ps (iN hs) 8 t->(∀R,dL ⟨P.glob,cF P (n+20),[],false⟩ [.fz (.list (xs.map .int)),sH hs,.own (.list ((aE++[(h.nm,h.ps,t)]).map cX)),.fz (.int (0+k)),NN,NM,NL,NK,NJ,NI,Kz,Ky,.no] (.one 3) w2 [3,4,5,6,7,8,9,10,11] rest=some R->dL ⟨P.glob,cF P (n+20),[],false⟩ [.fz (.list (xs.map .int)),sH hs,.own (.list (aE.map cX)),s3,s4,s5,s6,s7,s8,s9,AI,AH,.no] (.one 3) w2 [3,4,5,6,7,8,9,10,11] (.int (0+k)::rest)=some R)->zS n xs hs h k aE s3 s4 s5 s6 s7 s8 s9 AI AH rest
theorem uM (n:Nat) (xs:List Int) {hs:List Hd} (hh:eF l hs) (k:Nat) (hk:k<hs.length) (aE:List Fun) (hl:aE.length<=1000) (s3 s4 s5 s6 s7 s8 s9 AI AH:Slot) (rest:List D):zS n xs hs (hs.getD k oH) k aE s3 s4 s5 s6 s7 s8 s9 AI AH rest:=by
 obtain⟨hx,hm⟩:=Lp hk;generalize hs.getD k oH=h at *;refine aQ (cell (n+19) xs (6+(0+(k:Int))) (Ln [k] (.i (.c 0) (.a (.c 6) (.a (.c 0) (.n .x)))) [] rfl)) λc6 J9=>?_
 refine aQ (cell (n+19) xs 10 (by decide)) λmf Bv=>?_
 refine aQ (cell (n+19) xs 11 (by decide)) λB8 Bu=>?_
 have J2:=xT (a:=c6) (b:=977) (by decide);refine aQ (fF (n+19) (c6*977+(0+(k:Int)))) λq hq=>?_
 refine aQ (fF (n+19) (q+31)) λq2 MX=>?_
 have hr:=eU h.ps.length (by have:=(hh.ok h hm).le;exact(L1 [h.ps.length] .x (.c 1000) .x (.c 6) rfl this));have lp:(((h.ps.map str).length:Nat):Int)=(h.ps.length:Int):=by rw[ZB]
 obtain⟨kn,J5,J4⟩:=Ba (n+20) h.ps h.wn (hh.ok h hm).wn (.fz (.list (xs.map .int))) (sH hs) (.own (.list (aE.map cX))) (.fz (.int (0+k))) (.fz (.str h.nm)) .no .no .no .no .no (List.range h.ps.length) .no λj hj=>mem_range.mp hj
 have k4:k<4:=by have:=hh.le;exact(Ln [k,hs.length] (.w (.p 1 .x) (.c 4)) [Gl (.p 1 .x) .y,Gl .y (.c 4)] rfl hk this)
 have dz:((0+(k:Int)+1≠0)/\(0+(k:Int)+1).natAbs<2 ^ 64):=⟨by exact(λHM=>(Lf [k] [Gj (.p 1 (.a (.c 0) (.n .x))) (.c 0)] rfl HM)),by exact(Ln [((0:Int)+(↑k:Int)+(1:Int)).natAbs,k] (.w (.p 1 .x) (.c 18446744073709551616)) [Gl (.p 1 .y) (.c 4),Gj (.n .x) (.p 1 (.a (.c 0) (.n .y)))] rfl k4 (Int.natAbs_of_nonneg (a:=(0:Int)+(↑k:Int)+(1:Int)) (Ln [k] (.i (.c 0) (.p 1 (.a (.c 0) (.n .x)))) [] rfl)))⟩
 have h3:=fm (mf.fdiv (0+(k:Int)+1)) 3 (by decide);have e3:1+(mf.fdiv (0+(k:Int)+1)).fmod 3=(((1+(mf.fdiv (0+(k:Int)+1)).fmod 3).toNat:Nat):Int):=by exact((ZQ (a:=(1:Int)+(mf.fdiv ((0:Int)+(↑k:Int)+(1:Int))).fmod (3:Int)) (Li [(mf.fdiv ((0:Int)+(↑k:Int)+(1:Int))).fmod (3:Int)] (.i (.c 0) (.a (.c 1) .x)) [Gi (.c 0) .x] rfl h3.1)).symm)
 generalize Lx:(1+(mf.fdiv (0+(k:Int)+1)).fmod 3).toNat=e at e3;obtain⟨t,ht,ft⟩:=fV J4 hh.hok e (n+20) (d7 [e,n] [(mf.fdiv ((0:Int)+(↑k:Int)+(1:Int))).fmod (3:Int)] 1 (.w (.p 3 (.m 3 .x)) (.p 20 .y)) [(3,.i (.p 1 .x) (.c 3)),(-3,.j (.a (.c 1) .x) (.n .x))] rfl h3.2 e3) q;obtain⟨t2,MV,OR⟩:=fV J4 hh.hok 2 (n+20) (L0 [n] (.p 3 (.m 3 (.c 2))) (.p 20 .x) rfl) q2;have hsz:(aE.map cX).length<Sz:=by rw[ZB];show aE.length<16777216;exact(L1 [aE.length] (.p 1 .x) (.c 16777216) .x (.c 1000) rfl hl)
 have f1:cj .range [.int ((h.ps.map str).length:Int)]=some ((List.range h.ps.length).map λ(k:Nat)=>int (0+k)):=by exact Er lp ((cA _).trans hr)
 have f2:op2 .fdiv (.int mf) (.int (0+(k:Int)+1))=some (.fz (.int (mf.fdiv (0+(k:Int)+1)))):=(nR _ _).trans (YV dz);have f3:op2 .fdiv (.int B8) (.int (0+(k:Int)+1))=some (.fz (.int (B8.fdiv (0+(k:Int)+1)))):=(nR _ _).trans (YV dz);have ht:=e3.symm▸ht;clear hr dz e3
 by_cases qa:0<(B8.fdiv (0+(k:Int)+1)).fmod 3
 .have Hf:(0<(B8.fdiv (0+(k:Int)+1)).fmod 3)↔True:=⟨λac=>trivial,λac=>qa⟩
  by_cases qb:(0:Int)<(h.ps.length:Int)
  .have JU:((0:Int)<(h.ps.length:Int))↔True:=⟨λac=>trivial,λac=>qb⟩
   have nz:((h.ps.length:Int)=0)=False:=by simp only[eq_iff_iff,iff_false];exact(λHL=>(Lf [h.ps.length] [Gi (.p 1 (.c 0)) (.n .x),Gj (.n .x) (.c 0)] rfl qb HL))
   obtain⟨x,MT,mx⟩:=bZ (xs:=h.ps.map str) (r:=q2.fmod h.ps.length) (fm q2 h.ps.length qb).1 (by refine Er lp ?_;exact(fm q2 h.ps.length qb).2);refine aQ (mem_map.mp mx) λx Q=>?_;obtain rfl:=Q.2
   have Cp:∀u:T,fk h.ps (iN hs) 2 u->fk h.ps (iN hs) 8 (.iff [u,t,t2]):=λu fu=>fk.iff (d:=7) (by decide) rfl λv hv=>by
    simp only[mem_cons,not_mem_nil,or_false]at hv
    rcases hv with rfl|rfl|rfl
    .exact fu.mono (by decide)
    .exact ft.mono (d7 [e,((1:Int)+(mf.fdiv ((0:Int)+(↑k:Int)+(1:Int))).fmod (3:Int)).toNat] [(mf.fdiv ((0:Int)+(↑k:Int)+(1:Int))).fmod (3:Int)] 1 (.w (.p 4 .x) (.c 7)) [Gi (.p 1 .x) (.c 3),Gf .y .x,Gj (.n .y) (.a (.c 1) .x)] rfl h3.2 Lx (ZQ (a:=(1:Int)+(mf.fdiv ((0:Int)+(↑k:Int)+(1:Int))).fmod (3:Int)) (Li [(mf.fdiv ((0:Int)+(↑k:Int)+(1:Int))).fmod (3:Int)] (.i (.c 0) (.a (.c 1) .x)) [Gi (.c 0) .x] rfl h3.1)))
    .exact OR.mono (by decide)
   by_cases qc:(q2.fdiv 8).fmod 2=1
   .have KF:=qc
    refine⟨.iff [.doo hK [.nam x],t,t2],.fz (.str h.nm),.fz (jE h.ps),.fz (.tuple (h.wn.map .bool)),.fz (.list (kn.map .str)),.fz (.int q),.fz (cM (.iff [.doo hK [.nam x],t,t2])),.fz (.int q2),.fz (cM (.doo hK [.nam x])),Cp _ (tz (by kernel_rfl) (by kernel_rfl) (.nam Q.1:fk h.ps (iN hs) 1 (.nam x)) (Zh rfl)),λR hR=>?_⟩;rw[Zu]at hR;exact mn [.d 0 hx,.l 1 f1,.cp 0 J5,.c 1 J9,.v 0 J2,.c 1 hq,.c 0 Bv,.v 1 f2,.c 3 ht,.c 0 Bu,.v 1 f3,.b 1 (show ag Cm.gt (int ((B8.fdiv ((0:Int)+(↑k:Int)+(1:Int))).fmod (3:Int))) (int (0:Int))=some true by simp only[gh,Hf,YX]),.b 2 (show ag Cm.gt (int (↑(List.map str h.ps).length:Int)) (int (0:Int))=some true by simp only[lp,gh,JU,YX]),.c 2 MX,.v 1 (show op2 lU.mod (int q2) (int (↑(List.map str h.ps).length:Int))=some (Rv.fz (int (q2.fmod (↑h.ps.length:Int)))) by simp only[lp,gH,nz,if_false]),.d 0 MT,.b 2 (show ag Cm.eq (int ((q2.fdiv (8:Int)).fmod (2:Int))) (int (1:Int))=some true by simp only[KF,dY,YX]),.c 2 MV,.t 0 (show decide ((List.map cX aE).length<Sz)=true by simp only[hsz,YX]),.lp 0 hR] rfl
   .have KF:=qc
    refine⟨.iff [.nam x,t,t2],.fz (.str h.nm),.fz (jE h.ps),.fz (.tuple (h.wn.map .bool)),.fz (.list (kn.map .str)),.fz (.int q),.fz (cM (.iff [.nam x,t,t2])),.fz (.int q2),.fz (cM (.nam x)),Cp _ ((.nam Q.1:fk h.ps (iN hs) 1 (.nam x)).mono (by decide)),λR hR=>?_⟩;rw[Zu]at hR;exact mn [.d 0 hx,.l 1 f1,.cp 0 J5,.c 1 J9,.v 0 J2,.c 1 hq,.c 0 Bv,.v 1 f2,.c 3 ht,.c 0 Bu,.v 1 f3,.b 1 (show ag Cm.gt (int ((B8.fdiv ((0:Int)+(↑k:Int)+(1:Int))).fmod (3:Int))) (int (0:Int))=some true by simp only[gh,Hf,YX]),.b 2 (show ag Cm.gt (int (↑(List.map str h.ps).length:Int)) (int (0:Int))=some true by simp only[lp,gh,JU,YX]),.c 2 MX,.v 1 (show op2 lU.mod (int q2) (int (↑(List.map str h.ps).length:Int))=some (Rv.fz (int (q2.fmod (↑h.ps.length:Int)))) by simp only[lp,gH,nz,if_false]),.d 0 MT,.b 2 (show ag Cm.eq (int ((q2.fdiv (8:Int)).fmod (2:Int))) (int (1:Int))=some false by simp only[dY,KF,YY]),.c 2 MV,.t 0 (show decide ((List.map cX aE).length<Sz)=true by simp only[hsz,YX]),.lp 0 hR] rfl
  .have JU:((0:Int)<(h.ps.length:Int))↔False:=⟨qb,False.elim⟩
   refine⟨t,.fz (.str h.nm),.fz (jE h.ps),.fz (.tuple (h.wn.map .bool)),.fz (.list (kn.map .str)),.fz (.int q),.fz (cM t),.no,.no,ft.mono (d7 [e,((1:Int)+(mf.fdiv ((0:Int)+(↑k:Int)+(1:Int))).fmod (3:Int)).toNat] [(mf.fdiv ((0:Int)+(↑k:Int)+(1:Int))).fmod (3:Int)] 1 (.w (.p 4 .x) (.c 8)) [Gi (.p 1 .x) (.c 3),Gf .y .x,Gj (.n .y) (.a (.c 1) .x)] rfl h3.2 Lx (ZQ (a:=(1:Int)+(mf.fdiv ((0:Int)+(↑k:Int)+(1:Int))).fmod (3:Int)) (Li [(mf.fdiv ((0:Int)+(↑k:Int)+(1:Int))).fmod (3:Int)] (.i (.c 0) (.a (.c 1) .x)) [Gi (.c 0) .x] rfl h3.1))),λR hR=>?_⟩;rw[Zu]at hR;exact mn [.d 0 hx,.l 1 f1,.cp 0 J5,.c 1 J9,.v 0 J2,.c 1 hq,.c 0 Bv,.v 1 f2,.c 3 ht,.c 0 Bu,.v 1 f3,.b 1 (show ag Cm.gt (int ((B8.fdiv ((0:Int)+(↑k:Int)+(1:Int))).fmod (3:Int))) (int (0:Int))=some true by simp only[gh,Hf,YX]),.b 2 (show ag Cm.gt (int (↑(List.map str h.ps).length:Int)) (int (0:Int))=some false by simp only[lp,gh,JU,YY]),.t 1 (show decide ((List.map cX aE).length<Sz)=true by simp only[hsz,YX]),.lp 0 hR] rfl
 .have Hf:(0<(B8.fdiv (0+(k:Int)+1)).fmod 3)↔False:=⟨qa,False.elim⟩
  refine⟨t,.fz (.str h.nm),.fz (jE h.ps),.fz (.tuple (h.wn.map .bool)),.fz (.list (kn.map .str)),.fz (.int q),.fz (cM t),.no,.no,ft.mono (d7 [e,((1:Int)+(mf.fdiv ((0:Int)+(↑k:Int)+(1:Int))).fmod (3:Int)).toNat] [(mf.fdiv ((0:Int)+(↑k:Int)+(1:Int))).fmod (3:Int)] 1 (.w (.p 4 .x) (.c 8)) [Gi (.p 1 .x) (.c 3),Gf .y .x,Gj (.n .y) (.a (.c 1) .x)] rfl h3.2 Lx (ZQ (a:=(1:Int)+(mf.fdiv ((0:Int)+(↑k:Int)+(1:Int))).fmod (3:Int)) (Li [(mf.fdiv ((0:Int)+(↑k:Int)+(1:Int))).fmod (3:Int)] (.i (.c 0) (.a (.c 1) .x)) [Gi (.c 0) .x] rfl h3.1))),λR hR=>?_⟩;rw[Zu]at hR;exact mn [.d 0 hx,.l 1 f1,.cp 0 J5,.c 1 J9,.v 0 J2,.c 1 hq,.c 0 Bv,.v 1 f2,.c 3 ht,.c 0 Bu,.v 1 f3,.b 1 (show ag Cm.gt (int ((B8.fdiv ((0:Int)+(↑k:Int)+(1:Int))).fmod (3:Int))) (int (0:Int))=some false by simp only[gh,Hf,YY]),.t 2 (show decide ((List.map cX aE).length<Sz)=true by simp only[hsz,YX]),.lp 0 hR] rfl
theorem uN (n:Nat) (xs:List Int) {hs:List Hd} (hh:eF l hs):∀(ks:List Nat) (aE:List Fun) (s3 s4 s5 s6 s7 s8 s9 AI AH:Slot),(∀k∈ks,k<hs.length)->aE.length+ks.length<=1000->z3 (λfs=>dL ⟨P.glob,cF P (n+20),[],false⟩ [.fz (.list (xs.map .int)),sH hs,.own (.list (aE.map cX)),s3,s4,s5,s6,s7,s8,s9,AI,AH,.no] (.one 3) w2 [3,4,5,6,7,8,9,10,11] (ks.map λ(k:Nat)=>.int (0+k))=some (.ok .next,[.fz (.list (xs.map .int)),sH hs,.own (.list ((aE++fs).map cX)),.no,.no,.no,.no,.no,.no,.no,.no,.no,.no])) (λfs=>(fs.map λf=>(f.1,f.2.1))=(ks.map λk=>((hs.getD k oH).nm,(hs.getD k oH).ps))) (λfs=> ∀f∈fs,fk f.2.1 (iN hs) 8 f.2.2):=by
 intro ks
 induction ks with
 |nil=>exact @λaE s3 s4 s5 s6 s7 s8 s9 AI AH ac az=>⟨[],by refine Er Zr ?_;rw[cQ,ZL];rfl,rfl,λf h=>by cases h⟩
 |cons k ks IH=>
  intro aE s3 s4 s5 s6 s7 s8 s9 AI AH hk hl;have hl:=ZD▸hl;obtain⟨t,a4,a5,a6,a7,a8,a9,Kj,Ki,ft,st⟩:=uM n xs hh k (hk k Zn) aE (L1 [aE.length,ks.length] .x (.c 1000) (.a .x (.p 1 .y)) (.c 1000) rfl hl) s3 s4 s5 s6 s7 s8 s9 AI AH (ks.map λ(k:Nat)=>.int (0+k));obtain⟨fs,ih,hm,hf⟩:=IH (aE++[((hs.getD k oH).nm,(hs.getD k oH).ps,t)]) (.fz (.int (0+k))) a4 a5 a6 a7 a8 a9 Kj Ki (hG hk) (by refine Er ZE ?_;show aE.length+1+ks.length<=1000;exact(L1 [aE.length,ks.length] (.a (.p 1 .x) .y) (.c 1000) (.a .x (.p 1 .y)) (.c 1000) rfl hl));refine⟨((hs.getD k oH).nm,(hs.getD k oH).ps,t)::fs,?_,by exact Er Zt (Er Zt (Er hm rfl)),λf h=>?_⟩
  .rw[ZM]at ih
   exact st _ ih
  .rcases mem_cons.mp h with rfl|h
   .exact ft
   .exact hf f h
theorem uL (hs:List Hd):((List.range hs.length).map λk=>((hs.getD k oH).nm,(hs.getD k oH).ps))=hs.map λh=>(h.nm,h.ps):=by
 apply List.ext_getElem?;intro i;refine Er (ZF) (Er (ZF) ?_)
 by_cases q:i<hs.length
 .refine Er (List.getElem?_range q) (Er (ZG q) ?_)
  show some ((hs.getD i oH).nm,(hs.getD i oH).ps)=some (hs[i].nm,hs[i].ps)
  refine Er (ZH) (Er (ZG q) ?_);rfl
 .refine Er (List.getElem?_eq_none (by refine Er ZA ?_;exact(Nat.not_lt.mp q))) (Er (List.getElem?_eq_none (Nat.not_lt.mp q)) ?_);rfl
structure jX (hs:List Hd) (fs:List Fun):Prop where
 hd:(fs.map λf=>(f.1,f.2.1))=hs.map λh=>(h.nm,h.ps)
 ok:∀f∈fs,fk f.2.1 (iN hs) 8 f.2.2
theorem ru (n:Nat) (xs:List Int) {hs:List Hd} (hh:eF l hs):jY (λfs=>cF P (n+21) false 32 [.fz (.list (xs.map .int)),sH hs]=some (.ok (.fz (dy fs)),[])) (λfs=>jX hs fs):=by
 obtain⟨fs,ih,hm,hf⟩:=uN n xs hh (List.range hs.length) [] .no .no .no .no .no .no .no .no .no (λk hk=>mem_range.mp hk) (by refine Er ZA ?_;show 0+hs.length<=1000;exact(L1 [hs.length] (.a (.c 0) .x) (.c 1000) .x (.c 4) rfl hh.le));rw[uL]at hm;rw[Zr,Zk]at ih;refine⟨fs,?_,hm,hf⟩;have lp:(((hs.map dM).length:Nat):Int)=(hs.length:Int):=by rw[ZB]
 exact aJ [.l 1 (show cj iU.range [int (↑(List.map dM hs).length:Int)]=some (List.map (λ(k:Nat)=>int ((0:Int)+(↑k:Int))) (List.range hs.length)) by simp only[lp,cA,reduceNeg,(eU hs.length (L1 [hs.length] .x (.c 1000) .x (.c 4) rfl hh.le))]),.lp 0 ih] rfl
theorem jX.len {hs:List Hd} {fs:List Fun} (h:jX hs fs):fs.length=hs.length:=by
 have:=Y2 length h.hd;rw[ZB,ZB]at this;exact this
theorem jX.cts {hs:List Hd} {fs:List Fun} (h:jX hs fs):fs.map ct=iN hs:=by
 have:=Y2 (List.map λp:Str×List Str=>(p.1,p.2.length)) h.hd;rw[Zs,Zs]at this;exact this
theorem jX.nms {hs:List Hd} {fs:List Fun} (h:jX hs fs):fs.map (·.1)=hs.map (·.nm):=by
 have:=Y2 (List.map λp:Str×List Str=>p.1) h.hd;rw[Zs,Zs]at this;exact this
theorem jX.get {hs:List Hd} {fs:List Fun} (h:jX hs fs) {f:Fun} (hf:f∈fs):∃g∈hs,f.1=g.nm/\f.2.1=g.ps:=by
 have:(f.1,f.2.1)∈fs.map λf=>(f.1,f.2.1):=mem_map.mpr ⟨f,hf,rfl⟩
 rw[h.hd]at this;exact aQ (mem_map.mp this) λg q=>(⟨g,q.1,(Y2 Prod.fst q.2).symm,(Y2 Prod.snd q.2).symm⟩)
theorem jO (h1:∀x∈l,aH x=true) (h2:l.Nodup):bM l=true:=by
 unfold bM;rw[Z7,ZN];exact Er YZ (⟨h1,rJ h2⟩)
theorem Eh {hs:List Hd} {fs:List Fun} (hh:eF l hs) (hp:jX hs fs) {f:Fun} (hf:f∈fs):rI f=true:=by
 refine aQ (hp.get hf) λg q=>?_
 have:=hh.ok g q.1;unfold rI;refine Er q.2.2 (Er (Y0 this.le) (Er (jO (λx hx=>hh.nm.nm x (this.mem x hx)) this.nd) ?_));rfl
theorem r6 {hs:List Hd} (hh:eF l hs):bM (hs.map (·.nm))=true:=jO (λx hx=>hh.nm.nm x (hh.mem x hx)) hh.nd
theorem uO {hs:List Hd} {fs:List Fun} (hh:eF l hs) (hp:jX hs fs):dK fs=true:=by
 have hk:fs.isEmpty=false:=by
  cases fs with
  |nil=>have:=hh.pos;have this:=hp.len.symm▸this;cases this
  |cons=>rfl
 unfold dK;refine Er hk (Er hp.nms (Er hp.cts (Er (r6 hh) (Er (all_eq_true.mpr λf hf=>Eh hh hp hf) (Er (all_eq_true.mpr λf hf=>(hp.ok f hf).ok 20 (by decide)) ?_)))));rfl
mutual
noncomputable def kq:D->List Nat
 |.int i=>cK i
 |.tuple ds=>91::(au [32] (cD ds)++[93])
 |_=>[]
noncomputable def cD:List D->List (List Nat)
 |[]=>[]
 |d::ds=>kq d::cD ds
end
noncomputable abbrev fL:List Nat:=[114,101,102,117,115,101]
mutual
noncomputable def tx:T->List Nat
 |.val d=>kq d
 |.nam x=>x.cps.toList
 |.ref x=>40::(au [32] [fL,x.cps.toList]++[41])
 |.iff ps=>40::(au [32] ([105,102]::cS ps)++[41])
 |.doo op ps=>40::(au [32] (op.cps.toList::cS ps)++[41])
 |.call f ps=>40::(au [32] (f.cps.toList::cS ps)++[41])
 |.odd _=>[]
noncomputable def cS:List T->List (List Nat)
 |[]=>[]
 |t::ts=>tx t::cS ts
end
noncomputable def bf (l:List (List Nat)):Nat:=(l.map λx=>x.length+1).sum
theorem aD (x:List Nat) (l:List (List Nat)):bf (x::l)=x.length+1+bf l:=by
 unfold bf;exact Er Zt (Er List.sum_cons rfl)
theorem dr (c:Nat):∀l:List (List Nat),(au [c] l).length<=bf l:=by
 intro x1
 induction x1 with
 |nil=>exact Y8 _
 |cons x x2 ih=>
  cases x2 with
  |nil=>rw[aD];show x.length<=_;exact(L0 [x.length,bf []] .x (.a (.p 1 .x) .y) rfl)
  |cons y r=>
    have:=ih;rw[aD];exact Er ZE (Er ZE (Er Zx (L1 [x.length,(au [c] (y::r)).length,bf (y::r)] (.a (.p 1 .x) .y) (.a (.p 1 .x) .z) .y .z rfl this)))
theorem Af (l:List (List Nat)):((l.map λx=>(⟨x.toArray⟩:Str)).map λk=>k.cps.size).sum+(l.map λx=>(⟨x.toArray⟩:Str)).length*1=bf l:=by
 induction l with
 |nil=>rfl
 |cons x l ih=>
  rw[aD];refine Er ih.symm ?_;show x.toArray.size+(((l.map λx=>(⟨x.toArray⟩:Str)).map λk=>k.cps.size).sum)+((l.map λx=>(⟨x.toArray⟩:Str)).length+1)*1=_
  refine Er Zj ?_;omega
theorem th (l:List (List Nat)):dG (l.map sT)=some (l.map λx=>(⟨x.toArray⟩:Str)):=by
 have:=strs_map (l.map λx=>(⟨x.toArray⟩:Str));rw[Zs]at this;exact this
theorem uf (l:List (List Nat)):(l.map λx=>(⟨x.toArray⟩:Str)).map (λk=>k.cps.toList)=l:=by
 induction l with
 |nil=>rfl
 |cons x l ih=>show x::_=_;exact Er ih rfl
theorem jH {l:List (List Nat)} (h:bf l<=Sz) (xs:List D) (hx:xs=l.map sT):dD .join [S [32],.list xs]=some (.fz (sT (au [32] l))):=by
 show(match dG xs with
  |some ks=>if (ks.map λ(k:Str)=>k.cps.size).sum+ks.length*1<=Sz then some (Rv.fz (sT (au [32] (ks.map λ(k:Str)=>k.cps.toList)))) else none
  |none=>none)=_
 refine Er hx ?_;rw[th];show(if _<=Sz then _ else none)=_
 rw[Af,YV h,uf]
theorem yR (l:List (List Nat)):((l.map λx=>(⟨x.toArray⟩:Str)).map λk=>k.cps.size).sum=l.flatten.length:=by
 induction l with
 |nil=>rfl
 |cons x l ih=>
  show x.toArray.size+((l.map λx=>(⟨x.toArray⟩:Str)).map λk=>k.cps.size).sum=_
  exact Er ih (Er Zj (Er flatten_cons (Er ZE rfl)))
theorem u9:∀l:List (List Nat),au [] l=l.flatten:=by
 intro x1
 induction x1 with
 |nil=>exact rfl
 |cons x x2 ih=>
  cases x2 with
  |nil=>show x=x++[];rw[ZL]
  |cons y r=>
    show x++[]++au [] (y::r)=_
    refine Er ih ?_;rw[ZL];rfl
theorem ug {l:List (List Nat)} (h:l.flatten.length<=Sz) (xs:List D) (hx:xs=l.map sT):dD .join [S [],.list xs]=some (.fz (sT l.flatten)):=by
 show(match dG xs with
  |some ks=>if (ks.map λ(k:Str)=>k.cps.size).sum+ks.length*0<=Sz then some (Rv.fz (sT (au [] (ks.map λ(k:Str)=>k.cps.toList)))) else none
  |none=>none)=_
 refine Er hx ?_;rw[th];show(if _+_*0<=Sz then _ else none)=_
 rw[yR,Nat.mul_zero,Nat.add_zero,YV h,uf,u9]
theorem bV {a b:List Nat} (h:a.length+b.length<=Sz):op2 .add (sT a) (sT b)=some (.fz (sT (a++b))):=by
 show(if a.toArray.size+b.toArray.size<=Sz then some (Rv.fz (.str ⟨a.toArray++b.toArray⟩)) else none)=_
 refine Er Zj ?_;refine Er Zj ?_;rw[YV h,append_toArray]
theorem Cr (a b:List Nat):mP (sT a) (sT b)=some (decide (a=b)):=by
 unfold sT;rw[e_strD]
 by_cases q:a=b
 .exact Er (Y0 q) (Er (Y0 (Er q rfl)) rfl)
 .exact Er (Y1 q) (Er (Y1 λe=>q (by injection e with e;injection e)) rfl)
theorem t9:∀d:Nat,d<10->48<=(digitChar d).toNat/\(digitChar d).toNat<=57/\(digitChar d).toNat-48=d:=by decide
theorem j3 (h:n<10):dI n=[(digitChar n).toNat]:=by
 unfold dI;refine Er (Nat.toDigits_of_lt_base h) ?_;rfl
theorem j4 (h:10<=n):dI n=dI (n / 10)++[(digitChar (n % 10)).toNat]:=by
 unfold dI;refine Er (Nat.toDigits_of_base_le (by decide) h) (Er Zu ?_);rfl
theorem zj:∀(l:List Nat) (a:Nat) (c:Nat),ek a (l++[c])=(ek a l).bind λb=>ek b [c]:=by
 intro l
 induction l with
 |nil=>exact @λa c=>rfl
 |cons d l ih=>
  intro a c;show(if 48<=d/\d<=57 then ek (a*10+(d-48)) (l++[c]) else none)=(if 48<=d/\d<=57 then ek (a*10+(d-48)) l else none).bind _
  split
  .exact ih _ c
  .rfl
structure uq (n k:Nat):Prop where
 ne:1<=(dI n).length
 le:(dI n).length<=k
 dg:∀c∈dI n,48<=c/\c<=57
 va:ek 0 (dI n)=some n
theorem nT:∀(k n:Nat),n<10 ^ (k+1)->uq n (k+1)
 |k,n,h=>by
  by_cases q:n<10
  .have hd:=t9 n q
   refine Er (show(uq n (k+1))=(uq n (k+1)) from rfl) ?_;refine⟨by refine Er (j3 q) ?_;exact Zg 1,by refine Er (j3 q) ?_;show 1<=k+1;exact(L0 [k] (.c 1) (.p 1 .x) rfl),by refine Er (j3 q) ?_;exact λc hc=>by refine Er (List.mem_singleton.mp hc) ?_;exact⟨hd.1,hd.2.1⟩,?_⟩;refine Er (j3 q) ?_;show(if 48<=(digitChar n).toNat/\(digitChar n).toNat<=57 then some (0*10+((digitChar n).toNat-48)) else none)=_
   refine Er (YV ⟨hd.1,hd.2.1⟩) (Er hd.2.2 ?_);simp
  .have q:10<=n:=Nat.le_of_not_lt q
   match k,h with
   |0,h=>exact absurd h (by show ¬n<10;exact(λrO=>(Lf [n] [Gl (.c 10) .x,Gl (.p 1 .x) (.c 10)] rfl q rO)))
   |k+1,h=>
    have hd:=t9 (n % 10) (mod_lt _ (by decide));have ih:=nT k (n / 10) (Nat.div_lt_of_lt_mul (by rw[pow_succ,Zb]at h;exact h));refine⟨by refine Er (j4 q) (Er ZE ?_);show 1<=_+1;exact(L0 [(dI (n / (10:Nat))).length] (.c 1) (.p 1 .x) rfl),by refine Er (j4 q) (Er ZE ?_);show _+1<=_;exact(L1 [(dI (n / (10:Nat))).length,k] (.p 1 .x) (.p 1 (.p 1 .y)) .x (.p 1 .y) rfl ih.le),λc hc=>?_,?_⟩
    .rw[j4 q]at hc
     rcases mem_append.mp hc with hc|hc
     .exact ih.dg c hc
     .exact Er (List.mem_singleton.mp hc) (⟨hd.1,hd.2.1⟩)
    .refine Er (j4 q) ?_;rw[zj];refine Er ih.va ?_
     show(if 48<=_/\_<=57 then some (n / 10*10+((digitChar (n % 10)).toNat-48)) else none)=some n
     refine Er (YV ⟨hd.1,hd.2.1⟩) (Er hd.2.2 ?_);have:=Nat.div_add_mod n 10;rw[Zb];exact Er this rfl
theorem xB (h:n<10 ^ 18):uq n 18:=nT 17 n h
structure JO (i:Int):Prop where
 len:(cK i).length<=19
 ne:cK i≠ []
 sg:∀c∈cK i,c=45\/(48<=c/\c<=57)
theorem gW (h:i.natAbs<10 ^ 18):JO i:=by
 have N:=xB h;have:=N.ne;have:=N.le;unfold cK at *;refine⟨?_,?_,?_⟩<;>unfold cK<;>split
 .exact Er ZD (L1 [(dI i.natAbs).length] (.p 1 .x) (.c 19) .x (.c 18) rfl this)
 .exact(L1 [(dI i.natAbs).length] .x (.c 19) .x (.c 18) rfl this)
 .exact λe=>by cases e
 .intro e;rw[e]at this;have:=N.ne;have this:=e▸this;cases this
 .intro c hc
  rcases mem_cons.mp hc with rfl|hc
  .exact .inl rfl
  .exact .inr (N.dg c hc)
 .exact λc hc=>.inr (N.dg c hc)
theorem vc (h:i.natAbs<10 ^ 18):nZ (cK i)=some i:=by
 have N:=xB h;have h1:=N.ne;unfold cK
 by_cases q:i<0
 .refine Er (YV q) ?_
  have:nZ (45::dI i.natAbs)=if (dI i.natAbs).isEmpty then none else(ek 0 (dI i.natAbs)).map λ(n:Nat)=>-(n:Int):=rfl
  refine Er this (Er N.va ?_);cases e:dI i.natAbs with
  |nil=>have h1:=e▸h1;cases h1
  |cons c r=>show some (-((i.natAbs:Nat):Int))=some i;congr 1;exact(rT [i.natAbs] [i] (.j (.g (.n .x)) .x) [Gs (.n .x) (.g .x)] rfl (Int.ofNat_natAbs_of_nonpos (a:=i) (Li [i] (.i .x (.c 0)) [Gi (.p 1 .x) (.c 0)] rfl q)))
 .refine Er (YW q) ?_
  cases e:dI i.natAbs with
  |nil=>have h1:=e▸h1;cases h1
  |cons c r=>
   have hc:=N.dg c (by refine Er e ?_;exact Zn);have:nZ (c::r)=(ek 0 (c::r)).map λ(n:Nat)=>(n:Int):=YW (by exact(λe6=>(Lf [c] [Gl (.c 48) .x,Ge .x (.c 45)] rfl hc.1 e6)))
   refine Er this (Er e.symm (Er N.va ?_));show some ((i.natAbs:Nat):Int)=some i;congr 1;exact((Int.natAbs_of_nonneg (a:=i) (Int.not_lt.mp q)))
theorem cE (h:gM i=true):i.natAbs<10 ^ 18:=by
 unfold gM at h;rw[Z7,YZ,YZ]at h;have:(10:Nat) ^ 18=1000000000000000000:=by decide
 exact Er this (Y4 (Int.le_total 0 i) (λpG=>(d7 [i.natAbs] [i] 1 (.w (.p 1 .x) (.c 1000000000000000000)) [Gi (.p 1 .x) (.c 1000000000000000000),Gj (.n .x) .x] rfl h.2 (Int.natAbs_of_nonneg (a:=i) pG))) (λpG=>(d7 [i.natAbs] [i] 1 (.w (.p 1 .x) (.c 1000000000000000000)) [Gi (.p 1 (.g (.c 1000000000000000000))) .x,Gj (.n .x) (.g .x)] rfl h.1 (Int.ofNat_natAbs_of_nonpos (a:=i) pG))))
mutual
theorem sZ:∀d:D,good d=true->(kq d).length+1<=22*wt d
 |.int i,h=>by
  have:=(gW (cE h)).len;exact(L1 [(cK i).length] (.p 1 .x) (.m 22 (.c 1)) .x (.c 19) rfl this)
 |.tuple ds,h=>by
  have:=gw ds h;have:=dr 32 (cD ds);exact Er ZD (Er ZE (Er Zx (Ln [(au [32] (cD ds)).length,eN ds,bf (cD ds)] (.w (.p 1 (.p 1 (.p 1 .x))) (.m 22 (.a (.c 1) .y))) [Gl .z (.m 22 .y),Gl .x .z] rfl ‹bf (cD ds)<=(22:Nat)*eN ds› this)))
 |.none,h|.bool _,h|.str _,h|.list _,h|.dict _,h=>by cases h
theorem gw:∀ds:List D,cI ds=true->bf (cD ds)<=22*eN ds
 |[]=>@λac=>Y8 _
 |d::ds=>@λh=>by
  have h:(good d&&cI ds)=true:=h;rw[Z7]at h;show bf (kq d::cD ds)<=22*(wt d+eN ds)
  rw[aD];exact(Ln [(kq d).length,bf (cD ds),wt d,eN ds] (.w (.a (.p 1 .x) .y) (.m 22 (.a .z .u))) [Gl (.p 1 .x) (.m 22 .z),Gl .y (.m 22 .u)] rfl (sZ d h.1) (gw ds h.2))
end
mutual
theorem wq (n f:Nat) (hf:f=10\/f=35):∀(d:D) (k:Nat),dep d<=k->good d=true->22*wt d<=Sz->cF P (n+k+1) false f [.fz d]=some (.ok (.fz (sT (kq d))),[])
 |.int i,k,_,hg,_=>by
  have hb:dD .str [.int i]=some (.fz (sT (cK i))):=YV ⟨cE hg,by have:=(gW (cE hg)).len;exact(L1 [(cK i).length] .x (.c 20) .x (.c 19) rfl this)⟩
  rcases hf with rfl|rfl
  .exact aJ [.v 2 hb] rfl
  .exact aJ [.v 2 hb] rfl
 |.tuple ds,0,hk,_,_=>absurd hk (Nat.not_succ_le_zero _)
 |.tuple ds,k+1,hk,hg,hw=>by
  have hw:=hw;have ih:=wo n f hf ds k (Nat.le_of_succ_le_succ hk) hg (L1 [eN ds] (.m 22 .x) (.c 16777216) (.m 22 (.a (.c 1) .x)) (.c 16777216) rfl hw) (.fz (.tuple ds)) .no;have hj:=jH (l:=cD ds) (Ln [bf (cD ds),eN ds] (.w .x (.c 16777216)) [Gl (.m 22 (.a (.c 1) .y)) (.c 16777216),Gl .x (.m 22 .y)] rfl hw (gw ds hg)) _ rfl;have ha:=bV (a:=[91]) (b:=au [32] (cD ds)) (by refine Er Zx ?_;exact(Ln [(au [32] (cD ds)).length,eN ds,bf (cD ds)] (.w (.a (.c 1) .x) (.c 16777216)) [Gl (.m 22 (.a (.c 1) .y)) (.c 16777216),Gl .z (.m 22 .y),Gl .x .z] rfl hw (gw ds hg) (dr 32 (cD ds))));have hb:=bV (a:=91::au [32] (cD ds)) (b:=[93]) (by refine Er ZD (Er Zx ?_);exact(Ln [(au [32] (cD ds)).length,eN ds,bf (cD ds)] (.w (.p 1 (.p 1 .x)) (.c 16777216)) [Gl (.m 22 (.a (.c 1) .y)) (.c 16777216),Gl .z (.m 22 .y),Gl .x .z] rfl hw (gw ds hg) (dr 32 (cD ds))))
  rcases hf with rfl|rfl
  .exact aJ [.cp 3 ih,.v 0 hj,.v 0 ha,.v 0 hb] rfl
  .exact aJ [.cp 3 ih,.v 0 hj,.v 0 ha,.v 0 hb] rfl
 |.none,_,_,h,_|.bool _,_,_,h,_|.str _,_,_,h,_|.list _,_,_,h,_|.dict _,_,_,h,_=>by cases h
theorem wo (n f:Nat) (hf:f=10\/f=35):∀(ds:List D) (k:Nat),bK ds<=k->cI ds=true->22*eN ds<=Sz-> ∀(a0 s1:Slot),aZ ⟨P.glob,cF P (n+k+1),[],false⟩ [a0,s1] (.call f [aa 1]) (.one 1) [] ds=some (.ok ((cD ds).map sT),[a0,.no])
 |[]=>@λk ac az cL a0 s1=>by rw[bc];rfl
 |d::ds=>@λk hk hg hw a0 s1=>by
  have hg:(good d&&cI ds)=true:=hg;rw[Z7]at hg;exact mq [.c 0 ((wq n f hf d k (Ln [dep d,k,max (dep d) (bK ds)] (.w .x .y) [Gl .z .y,Gl .x .z] rfl hk (le_max_left (dep d) (bK ds))) hg.1 (L1 [wt d,eN ds] (.m 22 .x) (.c 16777216) (.m 22 (.a .x .y)) (.c 16777216) rfl hw))),.cp 0 ((wo n f hf ds k (Ln [bK ds,k,max (dep d) (bK ds)] (.w .x .y) [Gl .z .y,Gl .x .z] rfl hk (le_max_right (dep d) (bK ds))) hg.2 (L1 [eN ds,wt d] (.m 22 .x) (.c 16777216) (.m 22 (.a .y .x)) (.c 16777216) rfl hw) a0 (.fz d)))] rfl
end
structure Nm (ns:List Str) (cs:List (Str×Nat)):Prop where
 ns:∀x∈ns,aH x=true
 le:∀f k,cnt cs f=some k->k<=6
 cs:∀f k,cnt cs f=some k->aH f=true
theorem f8 (h:aH x=true):x.cps.toList.length<=8:=by
 unfold aH at h;simp only[Z7,YZ]at h;exact Er Z8 h.2.1
noncomputable abbrev pv:List Str:=gD++(mz++[d8])
theorem k7 (h:cP x=true):x∈pv:=by
 unfold cP at h;rw[Z4,Z4,bk,bk,YZ]at h;rw[mem_append,mem_append,Zl];exact h
theorem AS:(pv.all λx=>decide (x.cps.toList.length<=5))=true:=by kernel_rfl
theorem yi (h:cP x=true):x.cps.toList.length<=5:=YU (all_eq_true.mp AS x (k7 h))
theorem mm:(eQ.all λx=>decide (x.cps.toList.length<=8))=true:=by kernel_rfl
mutual
theorem wv {ns:List Str} {cs:List (Str×Nat)} (hn:Nm ns cs):∀(t:T) (r:Nat),dJ ns cs r t=true->(tx t).length<=ln t
 |t,0=>@λh=>by cases t<;>cases h
 |.val d,r+1=>@λh=>by
  have h:(good d&&decide (wt d<=50))=true:=h;rw[Z7]at h;have:=sZ d h.1;exact(L1 [(kq d).length,wt d] .x (.m 22 .y) (.p 1 .x) (.m 22 .y) rfl this)
 |.nam x,r+1=>@λh=>f8 (hn.ns x (bk.mp h))
 |.ref x,r+1=>@λh=>by
  have:=YU (all_eq_true.mp mm x (bk.mp h));show(40::((fL++[32]++x.cps.toList)++[41])).length<=20
  simp only[ZD,ZE,length_nil];exact(L1 [x.cps.toList.length] (.p 1 (.a (.a (.a (.p 1 (.p 1 (.p 1 (.p 1 (.p 1 (.p 1 (.c 0))))))) (.p 1 (.c 0))) .x) (.p 1 (.c 0)))) (.c 20) .x (.c 8) rfl this)
 |.iff ps,r+1=>@λh=>by
  have h:(decide (ps.length=3)&&ps.all (dJ ns cs r))=true:=h;rw[Z7,ZN]at h;have:=jZ hn ps r h.2;have:=dr 32 ([105,102]::cS ps);rw[aD,show([105,102]:List Nat).length=2 from rfl]at this;exact Er ZD (Er ZE (Er Zx (Ln [(au [32] ([105,102]::cS ps)).length,j6 ps,bf (cS ps)] (.w (.p 1 (.p 1 .x)) (.a (.c 5) .y)) [Gl .z .y,Gl .x (.a (.p 1 (.c 2)) .z)] rfl ‹bf (cS ps)<=j6 ps› this)))
 |.doo op ps,r+1=>@λh=>by
  have h:(cP op&&(br op ps.length&&ps.all (dJ ns cs r)))=true:=h;rw[Z7,Z7,ZN]at h;have:=jZ hn ps r h.2.2;have:=yi h.1;have:=dr 32 (op.cps.toList::cS ps);rw[aD]at this;exact Er ZD (Er ZE (Er Zx (Ln [(au [32] (op.cps.toList::cS ps)).length,j6 ps,bf (cS ps),op.cps.toList.length] (.w (.p 1 (.p 1 .x)) (.a (.c 8) .y)) [Gl .z .y,Gl .u (.c 5),Gl .x (.a (.p 1 .u) .z)] rfl ‹bf (cS ps)<=j6 ps› ‹op.cps.toList.length<=(5:Nat)› this)))
 |.call f ps,r+1=>@λh=>by
  have h:(decide (cnt cs f=some ps.length)&&ps.all (dJ ns cs r))=true:=h;rw[Z7,ZN,YZ]at h;have:=jZ hn ps r h.2;have:=f8 (hn.cs f _ h.1);have:=dr 32 (f.cps.toList::cS ps);rw[aD]at this;show(40::(au [32] (f.cps.toList::cS ps)++[41])).length<=11+j6 ps
  exact Er ZD (Er ZE (Er Zx (Ln [(au [32] (f.cps.toList::cS ps)).length,j6 ps,bf (cS ps),f.cps.toList.length] (.w (.p 1 (.p 1 .x)) (.a (.c 11) .y)) [Gl .z .y,Gl .u (.c 8),Gl .x (.a (.p 1 .u) .z)] rfl ‹bf (cS ps)<=j6 ps› ‹f.cps.toList.length<=(8:Nat)› this)))
 |.odd _,r+1=>@λh=>by cases h
theorem jZ {ns:List Str} {cs:List (Str×Nat)} (hn:Nm ns cs):∀(ts:List T) (r:Nat),(∀t∈ts,dJ ns cs r t=true)->bf (cS ts)<=j6 ts
 |[]=>@λr h=>Y8 _
 |t::ts=>@λr h=>by
  show bf (tx t::cS ts)<=1+ln t+j6 ts
  rw[aD];exact(Ln [(tx t).length,bf (cS ts),ln t,j6 ts] (.w (.a (.p 1 .x) .y) (.a (.a (.c 1) .z) .u)) [Gl .x .z,Gl .y .u] rfl (wv hn t r (h t Zn)) (jZ hn ts r (hG h)))
end
theorem Co:∀ts:List T,(cS ts).length=ts.length:=by
 intro ts
 induction ts with
 |nil=>exact rfl
 |cons t ts ih=>exact Y2 (· + 1) ih
theorem oC {x:D} {l:List D} (h:l.length<16600000):op2 .add (.list [x]) (.list l)=some (.own (.list (x::l))):=
 YV (by show 1+l.length<=16777216;exact(L1 [l.length] (.a (.c 1) .x) (.c 16777216) (.p 1 .x) (.c 16600000) rfl h))
theorem GO:∀ts:List T,ts.length<=bf (cS ts):=by
 intro ts
 induction ts with
 |nil=>exact Zg _
 |cons t ts ih=>
  have:=ih;show ts.length+1<=bf (tx t::cS ts);rw[aD];exact(L1 [ts.length,(tx t).length,bf (cS ts)] (.p 1 .x) (.a (.p 1 .y) .z) .x .z rfl this)
theorem fT:∀(x:List Nat) (l:List (List Nat)),(au [32] (x::l)).length=x.length+bf l:=by
 intro x r
 induction r generalizing x with
 |nil=>exact rfl
 |cons y r ih=>
  have:=ih y;rw[aD];exact Er ZE (Er ZE (Er Zx (Le [x.length,(au [(32:Nat)] (y::r)).length,y.length,bf r] (.e (.a (.p 1 .x) .y) (.a .x (.a (.p 1 .z) .u))) [Gp .y (.a .z .u)] rfl this)))
theorem iO (x:List Nat) (l:List (List Nat)):(40::(au [32] (x::l)++[41])).length=x.length+bf l+2:=by
 refine Er ZD ?_;refine Er ZE ?_;rw[fT];rfl
noncomputable abbrev Lz:Nat:=16600000
theorem lJ {h:List Nat} {ts:List (List Nat)} (hl:h.length+1+bf ts<=Lz):dD .join [S [32],.list (sT h::ts.map sT)]=some (.fz (sT (au [32] (h::ts))))/\
  op2 .add (S [40]) (sT (au [32] (h::ts)))=some (.fz (sT (40::au [32] (h::ts))))/\op2 .add (sT (40::au [32] (h::ts))) (S [41])=some (.fz (sT (40::(au [32] (h::ts)++[41])))):=by
 have hl:=hl;refine⟨jH (l:=h::ts) (by rw[aD];show _<=16777216;exact(L1 [h.length,bf ts] (.a (.p 1 .x) .y) (.c 16777216) (.a (.p 1 .x) .y) (.c 16600000) rfl ‹h.length+(1:Nat)+bf ts<=Lz›)) _ rfl,bV (a:=[40]) ?_,bV (b:=[41]) ?_⟩
 .refine Er Zx ?_;show _<=16777216;exact(Ln [(au [32] (h::ts)).length,h.length,bf ts] (.w (.a (.c 1) .x) (.c 16777216)) [Gl (.a (.p 1 .y) .z) (.c 16600000),Ge .x (.a .y .z)] rfl ‹h.length+(1:Nat)+bf ts<=Lz› (fT h ts))
 .refine Er ZD (Er Zx ?_);show _<=16777216;exact(Ln [(au [32] (h::ts)).length,h.length,bf ts] (.w (.p 1 (.p 1 .x)) (.c 16777216)) [Gl (.a (.p 1 .y) .z) (.c 16600000),Ge .x (.a .y .z)] rfl ‹h.length+(1:Nat)+bf ts<=Lz› (fT h ts))
theorem j7 {ns:List Str} (h:dJ ns cs (r+1) (.val d)=true):good d=true:=by
 have h:(good d&&decide (wt d<=50))=true:=h;rw[Z7]at h;exact h.1
theorem wx (n f:Nat) (hf:f=11\/f=36) (ps:List T) (r:Nat) (w: {w:Str // w=gI\/w=bY}) (op:List Nat) (hl:op.length+1+bf (cS ps)<=16600000)
  (ih:∀a1,aZ ⟨P.glob,cF P (n+r+52),[],false⟩ [.fz (.tuple [.str w.1,.str ⟨⟨op⟩⟩,.tuple (bj ps)]),a1,.no,.no] (.call f [aa 3]) (.one 3) [] (bj ps)=some (.ok ((cS ps).map sT),[.fz (.tuple [.str w.1,.str ⟨⟨op⟩⟩,.tuple (bj ps)]),a1,.no,.no])):
  cF P (n+(r+1)+52) false f [.fz (.tuple [.str w.1,.str ⟨⟨op⟩⟩,.tuple (bj ps)])]=some (.ok (.fz (sT (40::(au [32] (op::cS ps)++[41])))),[]):=by
 have hz:=oC (x:=sT op) (l:=(cS ps).map sT) (by have:=GO ps;rw[ZB,Co];exact(Ln [ps.length,op.length,bf (cS ps)] (.w (.p 1 .x) (.c 16600000)) [Gl (.a (.p 1 .y) .z) (.c 16600000),Gl .x .z] rfl hl this));have hj:=lJ (h:=op) (ts:=cS ps) hl;have Pk:n5 (.str gI) (.tuple [S [100,111],S [99,97,108,108]])=some true:=by kernel_rfl
 have Go:n5 (.str bY) (.tuple [S [100,111],S [99,97,108,108]])=some true:=by kernel_rfl
 obtain⟨w,hw⟩:=w
 rcases hf with rfl|rfl
 .have ih:=ih .no
  rcases hw with rfl|rfl
  .exact aJ [.cp 15 ih,.v 0 hz,.v 0 (hj.1),.v 0 (hj.2.1),.v 0 (hj.2.2)] rfl
  .exact aJ [.cp 15 ih,.v 0 hz,.v 0 (hj.1),.v 0 (hj.2.1),.v 0 (hj.2.2)] rfl
 .have ih:=ih (.own (.list [.str w,.str ⟨⟨op⟩⟩]))
  rcases hw with rfl|rfl
  .exact aJ [.cp 17 ih,.v 0 hz,.v 0 (hj.1),.v 0 (hj.2.1),.v 0 (hj.2.2)] rfl
  .exact aJ [.cp 17 ih,.v 0 hz,.v 0 (hj.1),.v 0 (hj.2.1),.v 0 (hj.2.2)] rfl
mutual
theorem wE (n f:Nat) (hf:f=11\/f=36) {ns:List Str} {cs:List (Str×Nat)} (hn:Nm ns cs):∀(t:T) (r:Nat),dJ ns cs r t=true->fG t<=50->(tx t).length<=Lz->cF P (n+r+52) false f [.fz (cM t)]=some (.ok (.fz (sT (tx t))),[])
 |t,0=>@λh ac az=>by cases t<;>cases h
 |.val d,r+1=>@λh hd hl=>by
  have hz:22*wt d<=Sz:=by
   have h:(good d&&decide (wt d<=50))=true:=h;rw[Z7]at h;have:=YU h.2;exact(Ln [wt d] (.w (.m 22 .x) (.c 16777216)) [(22,.w .x (.c 50))] rfl this)
  rcases hf with rfl|rfl
  .have hv:=wq (n+r+1) 10 (.inl rfl) d 50 hd (j7 h) hz
   rw[cM];exact aJ [.c 4 hv] rfl
  .have hv:=wq (n+r+1) 35 (.inr rfl) d 50 hd (j7 h) hz
   rw[cM];exact aJ [.c 4 hv] rfl
 |.nam ⟨⟨x⟩⟩,r+1=>@λh ac az=>by
  have hq:(bX=be)=False:=by simp
  rw[cM]
  rcases hf with rfl|rfl
  .exact aJ [] rfl
  .exact aJ [] rfl
 |.ref ⟨⟨x⟩⟩,r+1=>@λh ac az=>by
  have hq:(aK=be)=False:=by simp
  have hr:(aK=bX)=False:=by simp
  have hx:=YU (all_eq_true.mp mm _ (bk.mp h));rw[cM]
  rcases hf with rfl|rfl
  .have ha:=bV (a:=[40,114,101,102,117,115,101,32]) (b:=x) (by show 8+x.length<=16777216;exact(L1 [x.length] (.a (.c 8) .x) (.c 16777216) .x (.c 8) rfl hx))
   have hb:=bV (a:=[40,114,101,102,117,115,101,32]++x) (b:=[41]) (by refine Er ZE ?_;show 8+x.length+1<=16777216;exact(L1 [x.length] (.p 1 (.a (.c 8) .x)) (.c 16777216) .x (.c 8) rfl hx));exact aJ [.v 10 ha,.v 0 hb] rfl
  .have hi:(aK=fc)=False:=by simp
   have hj:=lJ (h:=fL) (ts:=[x]) (by rw[aD];show 6+1+(x.length+1+0)<=16600000;exact(L1 [x.length] (.a (.p 1 (.c 6)) (.p 0 (.p 1 .x))) (.c 16600000) .x (.c 8) rfl hx));have OB:n5 (.str aK) (.tuple [S [100,111],S [99,97,108,108]])=some false:=by kernel_rfl
   exact aJ [.v 14 (hj.1),.v 0 (hj.2.1),.v 0 (hj.2.2)] rfl
 |.iff ps,r+1=>@λh hd hl=>by
  have h:(decide (ps.length=3)&&ps.all (dJ ns cs r))=true:=h;rw[Z7,ZN,YZ]at h;have hl:(40::(au [32] ([105,102]::cS ps)++[41])).length<=16600000:=hl;rw[iO,show([105,102]:List Nat).length=2 from rfl]at hl;have ih:=λa0 a1 s2 s3 b=>ny n f hf hn ps r h.2 hd (by show _<=16600000;exact(L1 [bf (cS ps)] .x (.c 16600000) (.p 2 (.a (.c 2) .x)) (.c 16600000) rfl hl)) a0 a1 s2 s3 b
  have hz:=oC (x:=sT [105,102]) (l:=(cS ps).map sT) (by rw[ZB,Co];refine Er h.1 ?_;decide);have hj:=lJ (h:=[105,102]) (ts:=cS ps) (by show 2+1+bf (cS ps)<=16600000;exact(L1 [bf (cS ps)] (.a (.p 1 (.c 2)) .x) (.c 16600000) (.p 2 (.a (.c 2) .x)) (.c 16600000) rfl hl));rw[cM]
  rcases hf with rfl|rfl
  .have ih:=ih (.fz (.tuple (.str fc::bj ps))) .no .no .no true
   exact aJ [.v 12 ((ky (.str fc) (bj ps))),.cp 1 ih,.v 0 hz,.v 0 (hj.1),.v 0 (hj.2.1),.v 0 (hj.2.2)] rfl
  .obtain⟨d,hx⟩:∃d,aW (str fc::bj ps) 1=some d:=by
    match ps,h.1 with
    |t::ps,_=>exact⟨cM t,rfl⟩
   have OB:n5 (.str fc) (.tuple [S [100,111],S [99,97,108,108]])=some false:=by kernel_rfl
   exact aJ [.d 7 hx,.v 3 ((ky (.str fc) (bj ps))),.cp 1 ((ih (.fz (.tuple (.str fc::bj ps))) (.own (.list [.str fc,d])) .no .no true)),.v 0 hz,.v 3 (hj.1),.v 0 (hj.2.1),.v 0 (hj.2.2)] rfl
 |.doo ⟨⟨op⟩⟩ ps,r+1=>@λh hd hl=>by
  have h:(cP ⟨⟨op⟩⟩&&(br ⟨⟨op⟩⟩ ps.length&&ps.all (dJ ns cs r)))=true:=h;rw[Z7,Z7,ZN]at h;have hl:(40::(au [32] (op::cS ps)++[41])).length<=16600000:=hl;rw[iO]at hl;exact wx n f hf ps r ⟨gI,.inl rfl⟩ op (L1 [op.length,bf (cS ps)] (.a (.p 1 .x) .y) (.c 16600000) (.p 2 (.a .x .y)) (.c 16600000) rfl hl) λa1=>ny n f hf hn ps r h.2.2 hd (by show _<=16600000;exact(L1 [bf (cS ps),op.length] .x (.c 16600000) (.p 2 (.a .y .x)) (.c 16600000) rfl hl)) _ a1 .no .no false
 |.call ⟨⟨op⟩⟩ ps,r+1=>@λh hd hl=>by
  have h:(decide (cnt cs ⟨⟨op⟩⟩=some ps.length)&&ps.all (dJ ns cs r))=true:=h;rw[Z7,ZN,YZ]at h;have hl:(40::(au [32] (op::cS ps)++[41])).length<=16600000:=hl;rw[iO]at hl;exact wx n f hf ps r ⟨bY,.inr rfl⟩ op (L1 [op.length,bf (cS ps)] (.a (.p 1 .x) .y) (.c 16600000) (.p 2 (.a .x .y)) (.c 16600000) rfl hl) λa1=>ny n f hf hn ps r h.2 hd (by show _<=16600000;exact(L1 [bf (cS ps),op.length] .x (.c 16600000) (.p 2 (.a .y .x)) (.c 16600000) rfl hl)) _ a1 .no .no false
 |.odd _,r+1=>@λh ac az=>by cases h
theorem ny (n f:Nat) (hf:f=11\/f=36) {ns:List Str} {cs:List (Str×Nat)} (hn:Nm ns cs):∀(ts:List T) (r:Nat),(∀t∈ts,dJ ns cs r t=true)->eh ts<=50->bf (cS ts)<=Lz-> ∀(a0 a1 s2 s3:Slot) (b:Bool),
  aZ ⟨P.glob,cF P (n+r+52),[],false⟩ [a0,a1,s2,s3] (.call f [.var (if b then 2 else 3)]) (.one (if b then 2 else 3)) [] (bj ts)=some (.ok ((cS ts).map sT),[a0,a1,if b then .no else s2,if b then s3 else .no])
 |[]=>@λr ac az cL a0 a1 s2 s3 b=>by cases b<;>(show aZ _ _ _ _ _ []=_;rw[bc];rfl)
 |t::ts=>@λr h hd hl a0 a1 s2 s3 b=>by
  have hl:bf (tx t::cS ts)<=16600000:=hl;rw[aD]at hl;have h1:=wE n f hf hn t r (h t Zn) (Ln [fG t,max (fG t) (eh ts)] (.w .x (.c 50)) [Gl .y (.c 50),Gl .x .y] rfl hd (le_max_left (fG t) (eh ts))) (by show _<=16600000;exact(L1 [(tx t).length,bf (cS ts)] .x (.c 16600000) (.a (.p 1 .x) .y) (.c 16600000) rfl hl));have ih:=ny n f hf hn ts r (hG h) (Ln [eh ts,max (fG t) (eh ts)] (.w .x (.c 50)) [Gl .y (.c 50),Gl .x .y] rfl hd (le_max_right (fG t) (eh ts))) (by show _<=16600000;exact(L1 [bf (cS ts),(tx t).length] .x (.c 16600000) (.a (.p 1 .y) .x) (.c 16600000) rfl hl));cases b with
  |true=>
   have ih:=ih a0 a1 (.fz (cM t)) s3 true;exact mq [.c 0 h1,.cp 0 ih] rfl
  |false=>
   have ih:=ih a0 a1 s2 (.fz (cM t)) false;exact mq [.c 0 h1,.cp 0 ih] rfl
end
noncomputable abbrev fE (x:Str):List Nat:=x.cps.toList
theorem DZ (x:Str):sT (fE x) = .str x:=by obtain⟨⟨l⟩⟩:=x;rfl
noncomputable abbrev qf (f:Fun):List (List Nat):=fE f.1::f.2.1.map fE
noncomputable def uJ (f:Fun):List (List Nat):=qf f++[[61],tx f.2.2]
noncomputable def aO (f:Fun):List Nat:=au [32] (uJ f)
noncomputable def ar (fs:List Fun):List Nat:=(fs.map λf=>aO f++[10]).flatten
structure Fk (cs:List (Str×Nat)) (f:Fun):Prop where
 nm:aH f.1=true
 le:f.2.1.length<=6
 ps:∀x∈f.2.1,aH x=true
 ct:∀g k,cnt cs g=some k->aH g=true/\k<=6
 ok:dJ f.2.1 cs 20 f.2.2=true
 dp:fG f.2.2<=50
 tl:(aO f).length<=16500000
theorem Fk.ns {f:Fun} (h:Fk cs f):Nm f.2.1 cs:=⟨h.ps,λg k e=>(h.ct g k e).2,λg k e=>(h.ct g k e).1⟩
theorem cc (a b:List (List Nat)):bf (a++b)=bf a+bf b:=by
 unfold bf;exact Er Zu (Er List.sum_append rfl)
theorem Do {ps:List Str} (h:∀x∈ps,aH x=true):bf (ps.map fE)<=ps.length*9:=by
 induction ps with
 |nil=>exact Zg _
 |cons x ps ih=>
  have h1:=f8 (h x Zn);refine Er Zt ?_;rw[aD];refine Er ZD ?_;have h1:(fE x).length<=8:=h1;exact(Ln [(fE x).length,bf (List.map fE ps),(ps.length+1)*9,ps.length*9,ps.length] (.w (.a (.p 1 .x) .y) .z) [Gl .x (.c 8),Gl .y .u,Gf .z (.m 9 (.p 1 (.v 4))),Ge .u (.m 9 (.v 4))] rfl ‹x.cps.toList.length<=(8:Nat)› (ih (hG h)) (Zb (ps.length+(1:Nat)) ((9:Nat))) (Zb (ps.length) ((9:Nat))))
theorem wW (f:Fun):bf (uJ f)=(aO f).length+1:=by
 have:=fT (fE f.1) (f.2.1.map fE++[[61],tx f.2.2]);show bf (fE f.1::(f.2.1.map fE++[[61],tx f.2.2]))=_
 rw[aD];exact(Le [(fE f.fst).length,bf (List.map fE f.snd.fst++[[(61:Nat)],tx f.snd.snd]),(aO f).length] (.e (.a (.p 1 .x) .y) (.p 1 .z)) [Gq .z (.a .x .y)] rfl this)
theorem iW (f:Fun):(aO f).length=(fE f.1).length+bf (f.2.1.map fE)+(tx f.2.2).length+3:=by
 have:=fT (fE f.1) (f.2.1.map fE++[[61],tx f.2.2]);refine Er this ?_;rw[cc,aD,aD];exact(Le [(fE f.fst).length,bf (List.map fE f.snd.fst),(tx f.snd.snd).length] (.e (.a .x (.a .y (.a (.p 1 (.c 1)) (.p 0 (.p 1 .z))))) (.p 3 (.a (.a .x .y) .z))) [] rfl)
theorem uI {f:Fun} (nm:aH f.1=true) (le:f.2.1.length<=6) (ps:∀x∈f.2.1,aH x=true) (ns:Nm f.2.1 cs) (ok:dJ f.2.1 cs 20 f.2.2=true) (hl:ln f.2.2<=2000000):(aO f).length<=2000080:=by
 rw[iW];exact(Ln [(fE f.fst).length,bf (List.map fE f.snd.fst),(tx f.snd.snd).length,f.snd.fst.length,ln f.snd.snd,f.snd.fst.length*9] (.w (.p 3 (.a (.a .x .y) .z)) (.c 2000080)) [(9,.w .u (.c 6)),Gl (.v 4) (.c 2000000),Gl .x (.c 8),Gl .y (.v 5),Gl .z (.v 4),Ge (.v 5) (.m 9 .u)] rfl le hl (f8 nm) (Do ps) (wv ns _ _ ok) (Zb (f.snd.fst.length) ((9:Nat))))
structure Md (n:Nat) (f:Fun):Prop where
 a:op2 .add (.list [.str f.1]) (.list (f.2.1.map .str))=some (.own (.list (.str f.1::f.2.1.map .str)))
 b:op2 .add (.list (.str f.1::f.2.1.map .str)) (.list [S [61],sT (tx f.2.2)])=some (.own (.list ((.str f.1::f.2.1.map .str)++[S [61],sT (tx f.2.2)])))
 j:dD .join [S [32],.list ((.str f.1::f.2.1.map .str)++[S [61],sT (tx f.2.2)])]=some (.fz (sT (aO f)))
 e:op2 .add (sT (aO f)) (S [10])=some (.fz (sT (aO f++[10])))
 t:cF P (n+72) false 11 [.fz (cM f.2.2)]=some (.ok (.fz (sT (tx f.2.2))),[])
 t':cF P (n+72) false 36 [.fz (cM f.2.2)]=some (.ok (.fz (sT (tx f.2.2))),[])
theorem jt (n:Nat) {f:Fun} (h:Fk cs f):Md n f:=by
 have hr:=h.tl;refine⟨oC (by rw[ZB];exact(L1 [f.snd.fst.length] (.p 1 .x) (.c 16600000) .x (.c 6) rfl h.le)),YV ?_,jH (l:=uJ f) (by show _<=16777216;exact(Ln [bf (uJ f),(aO f).length] (.w .x (.c 16777216)) [Ge .x (.p 1 .y),Gl .y (.c 16500000)] rfl (wW f) hr)) _ ?_,bV (b:=[10]) (by show _+1<=16777216;exact(L1 [(aO f).length] (.p 1 .x) (.c 16777216) .x (.c 16500000) rfl hr)),wE n 11 (.inl rfl) h.ns _ 20 h.ok h.dp (by show _<=16600000;exact(Ln [(tx f.snd.snd).length,(aO f).length,(fE f.fst).length,bf (List.map fE f.snd.fst)] (.w .x (.c 16600000)) [Gl .y (.c 16500000),Gf .y (.p 3 (.a (.a .z .u) .x))] rfl hr (iW f))),wE n 36 (.inr rfl) h.ns _ 20 h.ok h.dp (by show _<=16600000;exact(Ln [(tx f.snd.snd).length,(aO f).length,(fE f.fst).length,bf (List.map fE f.snd.fst)] (.w .x (.c 16600000)) [Gl .y (.c 16500000),Gf .y (.p 3 (.a (.a .z .u) .x))] rfl hr (iW f)))⟩
 .refine Er ZD ?_;rw[ZB];show _+2<=16777216;exact(L1 [f.snd.fst.length] (.p 2 (.p 1 .x)) (.c 16777216) .x (.c 6) rfl h.le)
 .unfold uJ
  refine Er Zu ?_;refine Er Zt ?_;rw[Zs,DZ]
  rfl
noncomputable abbrev NG:List St:=[.app (.var 1) (.op2 .add (.bi .join [.lit (S [32]),.op2 .add (.op2 .add (.list [aa 2]) (.bi .list [aa 3])) (.list [(.lit (S [61])),(.call 11 [aa 4])])]) (.lit (S [10])))]
theorem Aw (n:Nat) (a0:Slot):∀(fs:List Fun) (aE:List (List Nat)) (s2 s3 s4:Slot),(∀f∈fs,Fk cs f)->aE.length+fs.length<=1000->
  dL ⟨P.glob,cF P (n+72),[],false⟩ [a0,.own (.list (aE.map sT)),s2,s3,s4] (.tup [2,3,4]) NG [2,3,4] (fs.map cX)=some (.ok .next,[a0,.own (.list ((aE++fs.map λf=>aO f++[10]).map sT)),.no,.no,.no]):=by
 intro fs
 induction fs with
 |nil=>exact @λaE s2 s3 s4 ac az=>by refine Er Zr ?_;refine Er Zr ?_;rw[cQ,ZL];rfl
 |cons f fs IH=>
  intro aE s2 s3 s4 h hl;have F:=jt n (h f Zn);have fa:=F.a;have fb:=F.b;have fj:=F.j;have fe:=F.e;have ft:=F.t;have ih:=IH (aE++[aO f++[10]]) (.fz (.str f.1)) (.fz (jE f.2.1)) (.fz (cM f.2.2)) (hG h) (by refine Er ZE ?_;rw[ZD]at hl;show _+1+_<=_;exact(L1 [aE.length,fs.length] (.a (.p 1 .x) .y) (.c 1000) (.a .x (.p 1 .y)) (.c 1000) rfl hl));have hz:(aE.map sT).length<Sz:=by rw[ZB];rw[ZD]at hl;show aE.length<16777216;exact(L1 [aE.length,fs.length] (.p 1 .x) (.c 16777216) (.a .x (.p 1 .y)) (.c 1000) rfl hl)
  rw[Zu,ZM]at ih;exact Er Zt (mn [.v 1 fa,.c 0 ft,.v 0 fb,.v 0 fj,.v 0 fe,.t 0 (show decide ((List.map sT aE).length<Sz)=true by simp only[hz,YX]),.lp 0 ih] rfl)
theorem o0 (n:Nat) {fs:List Fun} (h:∀f∈fs,Fk cs f) (hl:fs.length<=1000) (hs:(ar fs).length<=16777216):cF P (n+73) false 12 [.fz (dy fs)]=some (.ok (.fz (sT (ar fs))),[]):=by
 have lp:=Aw n (.fz (dy fs)) fs [] .no .no .no h (by show 0+_<=1000;exact(L1 [fs.length] (.a (.c 0) .x) (.c 1000) .x (.c 1000) rfl hl));rw[Zk]at lp;exact aJ [.lp 1 lp,.v 0 ((ug (l:=fs.map λf=>aO f++[10]) hs _ rfl))] rfl
theorem A7 (n:Nat) {f:Fun} (h:Fk cs f):cF P (n+73) false 37 [.fz (cX f)]=some (.ok (.fz (sT (aO f))),[]):=by
 have F:=jt n h;have fa:=F.a;have fb:=F.b;have fj:=F.j;have ft:=F.t';exact aJ [.v 3 fa,.c 1 ft,.v 0 fb,.v 0 fj] rfl
theorem A6 (n:Nat) (a0:Slot):∀(fs:List Fun) (s1:Slot),(∀f∈fs,Fk cs f)->
  aZ ⟨P.glob,cF P (n+73),[],false⟩ [a0,s1] (.op2 .add (.call 37 [aa 1]) (.lit (S [10]))) (.one 1) [] (fs.map cX)=some (.ok ((fs.map λf=>aO f++[10]).map sT),[a0,.no]):=by
 intro fs
 induction fs with
 |nil=>exact @λs1 ac=>by rw[Zr,Zr,bc];rfl
 |cons f fs ih=>
  intro s1 h;exact Er Zt (mq [.c 0 ((A7 n (h f Zn))),.v 0 (((jt n (h f Zn)).e)),.cp 0 ((ih (.fz (cX f)) (hG h)))] rfl)
theorem tf (n:Nat) {fs:List Fun} (h:∀f∈fs,Fk cs f) (hs:(ar fs).length<=16777216):cF P (n+74) false 38 [.fz (dy fs)]=some (.ok (.fz (sT (ar fs))),[]):=by
 exact aJ [.cp 1 ((A6 n (.fz (dy fs)) fs .no h)),.v 0 ((ug (l:=fs.map λf=>aO f++[10]) hs _ rfl))] rfl
noncomputable abbrev OZ:List Nat:=[32,40,41,91,93]
noncomputable def dl (c:Nat):Bool:=OZ.contains c
def fJ (rest:List Nat):Prop:= ∀c r,rest=c::r->dl c=true
theorem fJ.nil:fJ []:=λac az h=>by cases h
theorem fJ.of {r:List Nat} (h:dl c=true):fJ (c::r):=λac az e=>by cases e;exact h
theorem cG (n k:Nat):b3 n (k:Int)=min k n:=clipAt_nat n k
theorem nH (row:List Nat) (a b:Nat):eS (sT row) (.int (a:Int)) (.int (b:Int))=some (.fz (sT (cB row (min a row.length) (min b row.length)))):=by
 rw[<- cG,<- cG];rfl
theorem tm {row w:List Nat} (hr:row=bn++(w++rest)) (ha:a=bn.length) (hb:b=a+w.length):eS (sT row) (.int a) (.int b)=some (.fz (sT w)):=by
 refine Er hb ?_;rw[ha,<- natCast_add,nH];refine Er hr ?_;refine Er (show min bn.length (bn++(w++rest)).length=bn.length by simp) (Er (show min (bn.length+w.length) (bn++(w++rest)).length=bn.length+w.length by simp) ?_);unfold cB;refine Er List.drop_left ?_;rw[Nat.add_sub_cancel_left];exact Er take_left rfl
theorem gm {row:List Nat} (hr:row=bn++rest) (ha:a=bn.length):eS (sT row) (.int a) (.int (a+1))=some (.fz (sT (rest.take 1))):=by
 cases rest with
 |cons c r=>exact tm (w:=[c]) (rest:=r) hr ha rfl
 |nil=>
  refine Er ha ?_;refine Er (show((bn.length:Int)+1)=((bn.length+1:Nat):Int) from rfl) ?_;rw[nH,hr,ZL];refine Er (show min bn.length bn.length=bn.length by simp) (Er (show min (bn.length+1) bn.length=bn.length by simp) ?_);unfold cB;rw[Nat.sub_self];refine Er take_zero ?_;rfl
theorem lI (a b:List Nat):ag .eq (sT a) (sT b)=some (decide (a=b)):=Cr a b
theorem gR (a b:List Nat):ag .ne (sT a) (sT b)=some (!decide (a=b)):=by show(mP (sT a) (sT b)).map (!·)=_;rw[Cr];rfl
theorem yr {row:List Nat} {e:Int} (hr:row=bn++c::rest) (he:e=bn.length):fU (sT row) (.int e)=some (.str ⟨#[c]⟩):=by
 show(aW row e).map _=_
 unfold aW;refine Er he ?_;refine Er (YV (ZS _)) ?_;rw[ZR,hr,List.getElem?_append_right (Zg _),Nat.sub_self];rfl
noncomputable abbrev wB:List St:=[.asg (.one 2) (.op2 .add (aa 2) (ai 1))]
noncomputable abbrev wC:Ex:=.and [.cmp .lt (aa 2) (.bi .len [aa 0]),.cmp .notin (.idx (aa 0) (aa 2)) (.lit (S [32,40,41,91,93]))]
theorem Dc (n:Nat) (row:List Nat) (a1:Slot):∀(w bn rest:List Nat) (f:Nat) (e:Int),row=bn++(w++rest)->e=bn.length->(∀c∈w,dl c=false)->fJ rest->w.length<f->
  ms ⟨P.glob,cF P n,[],false⟩ [.fz (sT row),a1,.fz (.int e)] wC wB [] f=some (.ok .next,[.fz (sT row),a1,.fz (.int (e+w.length))]):=by
 intro w bn rest f
 induction w generalizing bn rest f with
 |nil=>
  cases f with
  |zero=>exact @λe ac az cL lS hf=>absurd hf (not_lt_zero _)
  |succ f=>
    intro e hr he hw hd hf;cases rest with
    |nil=>
     have h1:ag .lt (.int e) (.int row.length)=some false:=by
      rw[bz,Y1];refine Er hr (Er he ?_);simp
     exact Er (show e+(([]:List Nat).length:Int)=e from ZU e) (v9 [.v 0 ((rfl:dD .len [sT row]=some (.fz (.int row.length)))),.b 0 h1] rfl)
    |cons c r=>
     have h1:ag .lt (.int e) (.int row.length)=some true:=by
      rw[bz,Y0];refine Er hr (Er he ?_);simp;exact(Ln [bn.length,r.length] (.i (.p 1 (.n .x)) (.a (.n .x) (.p 1 (.n .y)))) [] rfl)
     have h3:ag .notin (.str ⟨#[c]⟩) (S [32,40,41,91,93])=some false:=by
      show some (!dl c)=_;refine Er (hd c r rfl) ?_;rfl
     exact Er (show e+(([]:List Nat).length:Int)=e from ZU e) (v9 [.v 0 ((rfl:dD .len [sT row]=some (.fz (.int row.length)))),.b 0 h1,.d 1 ((yr (rest:=r) hr he)),.b 0 h3] rfl)
 |cons c w IH=>
  cases f with
  |zero=>exact @λe ac az cL lS hf=>absurd hf (not_lt_zero _)
  |succ f=>
    intro e hr he hw hd hf;have h1:ag .lt (.int e) (.int row.length)=some true:=by
     rw[bz,Y0];refine Er hr (Er he ?_);simp;exact(Ln [bn.length,w.length,rest.length] (.i (.p 1 (.n .x)) (.a (.n .x) (.p 1 (.a (.n .y) (.n .z))))) [] rfl)
    have h3:ag .notin (.str ⟨#[c]⟩) (S [32,40,41,91,93])=some true:=by
     show some (!dl c)=_;refine Er (hw c Zn) ?_;rfl
    have ih:=IH (bn++[c]) rest f (e+1) (by refine Er hr ?_;rw[ZM];rfl) (by refine Er he (Er ZE ?_);rfl) (hG hw) hd (lt_of_succ_lt_succ hf);have ih:=(show e+1+(w.length:Int)=e+((c::w).length:Int) by refine Er ZD ?_;exact(rT [w.length] [e] (.j (.a (.p 1 .x) (.n .x)) (.a .x (.n (.p 1 .x)))) [] rfl))▸ih;exact v9 [.v 0 ((rfl:dD .len [sT row]=some (.fz (.int row.length)))),.b 0 h1,.d 1 ((yr (rest:=w++rest) hr he)),.b 0 h3,.lp 2 ih] rfl
theorem gV (n:Nat) {row w:List Nat} (hr:row=bn++(w++rest)) (ha:a=bn.length) (hw:∀c∈w,dl c=false) (hd:fJ rest) (hz:row.length<Sz):cF P (n+1) false 13 [.fz (sT row),.fz (.int a)]=some (.ok (.fz (sT w)),[]):=by
 have lp:=Dc n row (.fz (.int a)) w bn rest Sz a hr ha hw hd (by have:=Y2 length hr;rw[ZE,ZE]at this;exact(Ln [w.length,row.length,bn.length,rest.length] (.w (.p 1 .x) (.c 16777216)) [Gl (.p 1 .y) (.c 16777216),Gf .y (.a .z (.a .x .u))] rfl hz this));exact aJ [.lp 0 lp,.v 0 ((tm (b:=a+w.length) hr ha rfl))] rfl
theorem yS (n:Nat) (a0 a1:Slot):∀(cs:List Nat) (s2:Slot),aZ ⟨P.glob,cF P n,[],false⟩ [a0,a1,s2] (.cmp .isin (aa 2) (.gl 7)) (.one 2) [] (cs.map λc=>.str ⟨#[c]⟩)=some (.ok (cs.map λc=>.bool (figuresN.contains c)),[a0,a1,.no]):=by
 intro cs
 induction cs with
 |nil=>exact @λs2=>by refine Er Zr ?_;rw[bc];rfl
 |cons c cs ih=>
  intro s2;exact Er Zt (Er Zt (mq [.b 0 ((yp c)),.cp 0 ((ih (.fz (.str ⟨#[c]⟩))))] rfl))
theorem sd (h:48<=c/\c<=57):figuresN.contains c=true/\dl c=false:=by
 have q:=(by decide:∀k<10,figuresN.contains (48+k)=true/\dl (48+k)=false) (c-48) (lt_of_le_of_lt (Nat.sub_le_sub_right h.2 48) (by decide))
 rwa [Nat.add_sub_of_le h.1]at q
noncomputable def wd (s:List Nat):List Nat:=s.takeWhile λc=>!dl c
noncomputable def wr (s:List Nat):List Nat:=s.dropWhile λc=>!dl c
theorem iz (s:List Nat):s=wd s++wr s:=List.takeWhile_append_dropWhile.symm
theorem mu:∀(s:List Nat), ∀c∈wd s,dl c=false:=by
 intro s c h
 induction s generalizing c with
 |nil=>cases h
 |cons a s ih=>
  unfold wd at h;rw[takeWhile_cons]at h;cases q:dl a with
  |true=>have h:=q▸h;cases h
  |false=>
   have h:=q▸h
   rcases mem_cons.mp h with rfl|h
   .exact q
   .exact ih c h
theorem jn:∀(s:List Nat),fJ (wr s):=by
 intro s
 induction s with
 |nil=>exact .nil
 |cons a s ih=>
  unfold wr;refine Er List.dropWhile_cons ?_;cases q:dl a with
  |true=>exact .of q
  |false=>exact ih
noncomputable def gp (f:List Nat):Bool:=decide (1<=f.length)&&(decide (f.length<=18)&&f.all λc=>figuresN.contains c)
noncomputable def dh (w:List Nat):List Nat:=if w.take 1=[45] then w.drop 1 else w
noncomputable def xu (w:List Nat):Option Int:=if gp (dh w)=true then nZ w else none
noncomputable def bT (v:List Nat->Option (D×List Nat)):Nat->List Nat->Option (List D×List Nat)
 |0,_=>none
 |f+1,s=>if s.take 1=[93] then some ([],s.drop 1) else match v s with
  |none=>none
  |some (d,s1)=>if s1.take 1=[32] then(bT v f (s1.drop 1)).map λp=>(d::p.1,p.2)
   else if s1.take 1=[93] then(bT v f s1).map λp=>(d::p.1,p.2) else none
noncomputable def val:Nat->List Nat->Option (D×List Nat)
 |0,_=>none
 |r+1,s=>if s.take 1=[91] then(bT (val r) Sz (s.drop 1)).map λp=>(.tuple p.1,p.2) else(xu (wd s)).map λi=>(.int i,wr s)
abbrev m7 (k:Nat) (s t:List Nat):Prop:= ∃w:List Nat,s=w++t/\k<=w.length
theorem m7.len (h:m7 k s t):t.length+k<=s.length:=by obtain⟨w,rfl,h⟩:=h;exact Er ZE (L1 [t.length,k,w.length] (.a .x .y) (.a .z .x) .y .z rfl h)
theorem m7.trans (h:m7 j s t) (h':m7 k t u):m7 (j+k) s u:=by
 obtain⟨w,rfl,h⟩:=h;obtain⟨x,rfl,h'⟩:=h';exact⟨w++x,by rw[ZM],by refine Er ZE ?_;exact(Ln [j,k,w.length,x.length] (.w (.a .x .y) (.a .z .u)) [Gl .x .z,Gl .y .u] rfl h h')⟩
theorem m7.mono (h:m7 j s t) (q:k<=j):m7 k s t:=let ⟨w,e,h⟩:=h;⟨w,e,Zf q h⟩
theorem nB (h:s.take 1=[c]):s=c::s.drop 1:=by
 cases s with
 |nil=>cases h
 |cons a s=>rw[List.take_succ_cons]at h;injection h with h _;refine Er h ?_;rfl
theorem oV (h:s.take 1=[c]):m7 1 s (s.drop 1):=⟨[c],nB h,Zg _⟩
theorem Ek {w:List Nat} (h:xu w=some i):1<=w.length:=by
 unfold xu at h
 by_cases q:gp (dh w)=true
 .unfold gp dh at q
  rw[Z7]at q;cases w with
  |nil=>exact absurd (YU q.1) (by decide)
  |cons a w=>exact succ_le_succ (Y8 _)
 .rw[YW q]at h;exact ah h
theorem ut (hv:∀s d t,v s=some (d,t)->m7 1 s t):∀(f:Nat) (s:List Nat) (ds:List D) (t:List Nat),bT v f s=some (ds,t)->m7 1 s t:=by
 intro f s ds t h
 induction f generalizing s ds t with
 |zero=>exact ah h
 |succ f ih=>
  unfold bT at h
  by_cases q:s.take 1=[93]
  .rw[YV q]at h;cases h;exact oV q
  rw[YW q]at h;cases e:v s with
  |none=>have h:=e▸h;exact ah h
  |some p=>
   have h:=e▸h
   by_cases q:p.2.take 1=[32]
   .dsimp only at h
    have h:=(YV q)▸h;obtain⟨⟨ke,t'⟩,e',h⟩:=Z9 h;cases h;exact(((hv _ _ _ e).trans (oV q)).trans (ih _ _ _ e')).mono (Nat.le_add_left _ _)
   dsimp only at h;have h:=(YW q)▸h
   by_cases q:p.2.take 1=[93]
   .rw[YV q]at h
    obtain⟨⟨ke,t'⟩,e',h⟩:=Z9 h;cases h;exact((hv _ _ _ e).trans (ih _ _ _ e')).mono (Nat.le_add_left _ _)
   .have h:=(YW q)▸h;exact ah h
theorem nk:∀(r:Nat) (s:List Nat) (d:D) (t:List Nat),val r s=some (d,t)->m7 1 s t:=by
 intro r s d t h
 induction r generalizing s d t with
 |zero=>exact ah h
 |succ r ih=>
  unfold val at h
  by_cases q:s.take 1=[91]
  .rw[YV q]at h
   obtain⟨⟨ds,t'⟩,e',h⟩:=Z9 h;cases h;exact((oV q).trans (ut ih _ _ _ _ e')).mono (Nat.le_add_left _ _)
  .rw[YW q]at h
   obtain⟨i,e',h⟩:=Z9 h;cases h;exact⟨wd s,iz s,Ek e'⟩
theorem qH:∀(l:List Nat) (a:Nat),(l.all λc=>figuresN.contains c)=true-> ∃n,ek a l=some n:=by
 intro l a h
 induction l generalizing a with
 |nil=>exact⟨a,rfl⟩
 |cons c l ih=>
  have h:=ZO▸h;rw[Z7]at h;have q:∀c∈figuresN,48<=c/\c<=57:=by decide
  show ∃n,(if 48<=c/\c<=57 then ek (a*10+(c-48)) l else none)=some n
  exact Er (YV (q c (contains_iff_mem.mp h.1))) (ih _ h.2)
theorem yo {w:List Nat} (h:gp (dh w)=true):∃i,nZ w=some i:=by
 unfold gp at h;rw[Z7,Z7,YZ]at h;cases w with
 |nil=>exact absurd h.1 (by decide)
 |cons c r=>
  show ∃i,(if c=45 then(if r.isEmpty then none else(ek 0 r).map λ(n:Nat)=>-(n:Int)) else(ek 0 (c::r)).map λ(n:Nat)=>(n:Int))=some i
  by_cases q:c=45
  .refine Er (YV q) ?_
   subst q;rw[(rfl:dh (45::r)=r)]at h;cases r with
   |nil=>exact absurd h.1 (by decide)
   |cons b r=>
    obtain⟨n,hn⟩:=qH _ 0 h.2.2;exact Er hn (⟨_,rfl⟩)
  .refine Er (YW q) ?_
   have e:dh (c::r)=c::r:=YW λz=>q (by rw[List.take_succ_cons]at z;injection z)
   rw[e]at h;obtain⟨n,hn⟩:=qH _ 0 h.2.2;exact Er hn (⟨_,rfl⟩)
theorem DE (w:List Nat):eS (sT w) .none (.int 1)=some (.fz (sT (w.take 1))):=by
 show some (Rv.fz (sT (cB w 0 (b3 w.length ((1:Nat):Int)))))=_
 rw[cG];unfold cB;refine Er ZI ?_;rw[Y9];cases w with
 |nil=>rfl
 |cons a w=>exact Er (show min 1 (a::w).length=1 from Zd (succ_le_succ (Y8 w.length))) rfl
theorem DF (w:List Nat):eS (sT w) (.int 1) .none=some (.fz (sT (w.drop 1))):=by
 show some (Rv.fz (sT (cB w (b3 w.length ((1:Nat):Int)) w.length)))=_
 rw[cG];unfold cB;cases w with
 |nil=>rfl
 |cons a w=>
  refine Er (show min 1 (a::w).length=1 from Zd (succ_le_succ (Y8 w.length))) ?_;refine Er List.drop_succ_cons ?_;rw[ZI,ZD,Nat.add_sub_cancel,List.take_length]
noncomputable abbrev HG {α:Type} (fr:α):Option (Except Str Rv×α):=some (.error aB,fr)
noncomputable def KJ (o:Option Int):Option (Except Str Rv×List Slot):=match o with
 |none=>HG []
 |some i=>some (.ok (.fz (.int i)),[])
theorem AZ (n:Nat) (w:List Nat):cF P (n+1) false 14 [.fz (sT w)]=KJ (xu w):=by
 have s1:=DE w;have s2:=DF w;have c0:=lI (w.take 1) [45];have hl:dD .len [sT (dh w)]=some (.fz (.int (dh w).length)):=rfl;have c1:ag .le (.int 1) (.int (dh w).length)=some (decide (1<=(dh w).length)):=(iu _ _).trans (Y2 some (decide_eq_decide.mpr (⟨λrO=>(Ln [(dh w).length] (.w (.c 1) .x) [Gi (.c 1) (.n .x)] rfl rO),λrO=>(Ln [(dh w).length] (.i (.c 1) (.n .x)) [Gl (.c 1) .x] rfl rO)⟩)));have c2:ag .le (.int (dh w).length) gN=some (decide ((dh w).length<=18)):=by
  exact(iu _ _).trans (Y2 some (decide_eq_decide.mpr (⟨λrN=>(Ln [(dh w).length] (.w .x (.c 18)) [Gi (.n .x) (.c 18)] rfl rN),λrN=>(Ln [(dh w).length] (.i (.n .x) (.c 18)) [Gl .x (.c 18)] rfl rN)⟩)))
 have lp:=λa0 a1=>yS n a0 a1 (dh w) .no
 have ab:dD .all [.list ((dh w).map λc=>.bool (figuresN.contains c))]=some (.fz (.bool ((dh w).all λc=>figuresN.contains c))):=by
  show(allB _).map _=_;refine Er (gT (λc=>figuresN.contains c) (dh w)) ?_;rfl
 unfold xu
 by_cases q:gp (dh w)=true
 .refine aQ (yo q) λi hi=>?_
  refine Er (YV q) (Er hi ?_);unfold gp at q;rw[Z7,Z7]at q;rw[q.1]at c1;rw[q.2.1]at c2;rw[q.2.2]at ab;have Hg:=YU q.2.1;have hb:dD .int [sT w]=some (.fz (.int i)):=by
   show(if w.length<=640 then(nZ w).map _ else none)=_
   rw[YV ?_];refine Er hi ?_;rfl;unfold dh at Hg
   split at Hg
   .rw[ZC]at Hg;exact(Y4 (Nat.le_total ((1:Nat)) (w.length)) (λxI=>(Ln [w.length,w.length-1] (.w .x (.c 640)) [Gl .y (.c 18),Gf (.p 1 .y) .x] rfl Hg (Za (n:=w.length) (m:=1) xI))) (λxI=>(L1 [w.length] .x (.c 640) .x (.c 1) rfl xI)))
   .exact(L1 [w.length] .x (.c 640) .x (.c 18) rfl Hg)
  have lp:=lp (.fz (sT w)) (.fz (sT (dh w)))
  by_cases z:w.take 1=[45]
  .have e:dh w=w.drop 1:=YV z
   rw[Y0 z]at c0;rw[e]at hl c1 c2 lp ab;show _=some (Except.ok (Rv.fz (int i)),[])
   exact aJ [.v 0 s1,.b 0 c0,.v 1 s2,.v 0 hl,.b 0 c1,.b 1 c2,.cp 3 lp,.v 0 ab,.v 2 hb] rfl
  .have e:dh w=w:=YW z
   rw[Y1 z]at c0;rw[e]at hl c1 c2 lp ab;show _=some (Except.ok (Rv.fz (int i)),[])
   exact aJ [.v 0 s1,.b 0 c0,.v 1 hl,.b 0 c1,.b 1 c2,.cp 3 lp,.v 0 ab,.v 2 hb] rfl
 .refine Er (YW q) ?_
  unfold gp at q;have lp:=lp (.fz (sT w)) (.fz (sT (dh w)))
  by_cases z:w.take 1=[45]
  .have e:dh w=w.drop 1:=YV z
   rw[Y0 z]at c0;rw[e]at hl c1 c2 lp ab q;cases q1:decide (1<=(w.drop 1).length) with
   |false=>rw[q1]at c1;exact aJ [.v 0 s1,.b 0 c0,.v 1 s2,.v 0 hl,.b 0 c1] rfl
   |true=>
    rw[q1]at c1 q;cases q2:decide ((w.drop 1).length<=18) with
    |false=>rw[q2]at c2;exact aJ [.v 0 s1,.b 0 c0,.v 1 s2,.v 0 hl,.b 0 c1,.b 1 c2] rfl
    |true=>
     rw[q2]at c2 q;rw[Z3,Z3,not_eq_true]at q;rw[q]at ab;exact aJ [.v 0 s1,.b 0 c0,.v 1 s2,.v 0 hl,.b 0 c1,.b 1 c2,.cp 3 lp,.v 0 ab] rfl
  .have e:dh w=w:=YW z
   rw[Y1 z]at c0;rw[e]at hl c1 c2 lp ab q;cases q1:decide (1<=w.length) with
   |false=>rw[q1]at c1;exact aJ [.v 0 s1,.b 0 c0,.v 1 hl,.b 0 c1] rfl
   |true=>
    rw[q1]at c1 q;cases q2:decide (w.length<=18) with
    |false=>rw[q2]at c2;exact aJ [.v 0 s1,.b 0 c0,.v 1 hl,.b 0 c1,.b 1 c2] rfl
    |true=>
     rw[q2]at c2 q;rw[Z3,Z3,not_eq_true]at q;rw[q]at ab;exact aJ [.v 0 s1,.b 0 c0,.v 1 hl,.b 0 c1,.b 1 c2,.cp 3 lp,.v 0 ab] rfl
noncomputable abbrev vC:Ex:=.cmp .ne (.slc (aa 0) (aa 1) (.op2 .add (aa 1) (ai 1))) (.lit (S [93]))
noncomputable abbrev vB:List St:=[.asg (.tup [5,1]) (.call 15 [aa 0,aa 1,.op2 .sub (aa 2) (ai 1)]),
   .app (.var 4) (aa 5),
   .iff (.cmp .eq (.slc (aa 0) (aa 1) (.op2 .add (aa 1) (ai 1))) (.lit (S [32]))) [.asg (.one 1) (.op2 .add (aa 1) (ai 1))] [.iff (.cmp .ne (.slc (aa 0) (aa 1) (.op2 .add (aa 1) (ai 1))) (.lit (S [93]))) [.raise aB] []]]
noncomputable def vR (row:List Nat) (o:Option (D×List Nat)):Option (Except Str Rv×List Slot):=match o with
 |none=>HG []
 |some (d,t)=>some (.ok (.fz (.tuple [d,.int ((row.length:Int)-t.length)])),[])
theorem lL {row:List Nat} (hr:row=bn++s) (h:m7 k s t):∃Hj,row=Hj++t/\(row.length:Int)-t.length=Hj.length:=by
 refine aQ h λw h=>?_;obtain rfl:=h.1
 refine⟨bn++w,by refine Er hr ?_;rw[ZM],?_⟩;exact Er hr (Er ZE (Er ZE (Er ZE (Le [bn.length,w.length,t.length] (.j (.s (.n (.a .x (.a .y .z))) (.n .z)) (.n (.a .x .y))) [] rfl))))
theorem sO {row:List Nat} (hr:row=bn++s) (h:s.take 1=[c]):row=(bn++[c])++s.drop 1/\((bn++[c]).length:Int)=bn.length+1/\(row.length:Int)-(s.drop 1).length=bn.length+1:=by
 have:=nB h;refine⟨by refine Er hr ?_;rw[ZM];show _=bn++(c::s.drop 1);exact Er this.symm rfl,by refine Er ZE ?_;rfl,?_⟩;refine Er hr (Er ZE ?_);have:=Y2 length this;rw[ZD]at this;exact(Le [bn.length,s.length,(drop (1:Nat) s).length] (.j (.s (.n (.a .x .y)) (.n .z)) (.p 1 (.n .x))) [Gp .y (.p 1 .z)] rfl this)
inductive Gy (n:Nat) (row:List Nat) (m:Int) (aE:List D) (f:Nat) (fr:Mv.Fm):Option (List D×List Nat)->Prop
 |bad b4 :ms ⟨P.glob,cF P n,[],false⟩ fr vC vB [5] f=some (.error aB,b4)->Gy n row m aE f fr none
 |good (ds:List D) (t:List Nat):ms ⟨P.glob,cF P n,[],false⟩ fr vC vB [5] f=some (.ok .next,[.fz (sT row),.fz (.int ((row.length:Int)-t.length-1)),.fz (.int m),.no,.own (.list (aE++ds)),.no])->Gy n row m aE f fr (some (ds,t))
theorem Gy.cons {n:Nat} {row:List Nat} {m:Int} {aE:List D} {f f':Nat} {fr b4:Mv.Fm} {d:D} {o:Option (List D×List Nat)} (h:Gy n row m (aE++[d]) f fr o)
  (k:∀R,ms ⟨P.glob,cF P n,[],false⟩ fr vC vB [5] f=some R->ms ⟨P.glob,cF P n,[],false⟩ b4 vC vB [5] f'=some R):Gy n row m aE f' b4 (o.map λp=>(d::p.1,p.2)):=by
 cases h with
 |bad fr h=>exact .bad fr (k _ h)
 |good ds t h=>exact .good (d::ds) t (by rw[ZM]at h;exact k _ h)
theorem Ac (n:Nat) (r:Nat) (row:List Nat) (hz:row.length<Sz) (m:Int) (H:∀(bn s:List Nat) (a:Int),row=bn++s->a=bn.length->cF P n false 15 [.fz (sT row),.fz (.int a),.fz (.int (m-1))]=vR row (val r s)):
  ∀(f:Nat) (bn s:List Nat) (a:Int) (aE:List D) (s5:Slot),row=bn++s->a=bn.length->aE.length<=bn.length->s.length<f->Gy n row m aE f [.fz (sT row),.fz (.int a),.fz (.int m),.no,.own (.list aE),s5] (bT (val r) f s):=by
 intro f bn s a aE s5 hr ha hl hf
 induction f generalizing bn s a aE s5 hr ha hl with
 |zero=>exact absurd hf (not_lt_zero _)
 |succ f ih=>
  have h1:=gm hr ha;have h2:=gR (s.take 1) [93];unfold bT
  by_cases q:s.take 1=[93]
  .refine Er (YV q) ?_
   have h2:=(Y0 q)▸h2;refine .good [] _ ?_;rw[ZL];refine Er ((sO hr q).2.2) ?_;exact Er (show((bn.length:Int)+1-1)=a by refine Er ha ?_;exact(Le [bn.length] (.j (.s (.p 1 (.n .x)) (.c 1)) (.n .x)) [] rfl)) (v9 [.v 1 h1,.b 0 h2] rfl)
  refine Er (YW q) ?_;have h2:=(Y1 q)▸h2;have h3:=H bn s a hr ha;cases e:val r s with
  |none=>
   rw[e]at h3;have:∃b4,ms ⟨P.glob,cF P n,[],false⟩ [.fz (sT row),.fz (.int a),.fz (.int m),.no,.own (.list aE),s5] vC vB [5] (f+1)=some (.error aB,b4):=by
    exact⟨[Slot.fz (str {cps:=row.toArray}),Slot.fz (int a),Slot.fz (int m),Slot.no,Slot.own (list aE),Slot.no],v9 [.v 1 h1,.b 0 h2,.c 2 h3] rfl⟩
   refine aQ this λb4 h=>?_
   exact .bad b4 h
  |some p=>
   rw[e]at h3;have h3:=h3;refine aQ (lL hr (nk _ _ _ _ e)) λkJ Q=>?_;have ve:=Q.1;have yJ:=Q.2
   have K9:=(nk _ _ _ _ e).len;have CF:bn.length+1<=kJ.length:=by
    have h4:=Y2 length hr;have h5:=Y2 length ve;rw[ZE]at h4 h5;exact(Ln [bn.length,kJ.length,row.length,p.2.length,s.length] (.w (.p 1 .x) .y) [Gj (.s (.n .z) (.n .u)) (.n .y),Gl (.p 1 .u) (.v 4),Gf .z (.a .x (.v 4))] rfl yJ K9 h4)
   have h4:=gm ve yJ;have h5:=lI (p.2.take 1) [32];have h6:=gR (p.2.take 1) [93];have hA:decide (aE.length<Sz)=true:=Y0 (by
    have h4:=Y2 length hr;rw[ZE]at h4;exact(Ln [aE.length,row.length,bn.length,s.length] (.w (.p 1 .x) (.c 16777216)) [Gl (.p 1 .y) (.c 16777216),Gl .x .z,Gf .y (.a .z .u)] rfl hz hl h4))
   dsimp only
   by_cases q2:p.2.take 1=[32]
   .refine Er (YV q2) ?_
    rw[Y0 q2]at h5;obtain⟨Bn,IJ,_⟩:=sO ve q2;refine(ih (kJ++[32]) (p.2.drop 1) ((row.length:Int)-p.2.length+1) (aE++[p.1]) (.fz p.1) Bn (Er yJ (Er IJ rfl)) (by refine Er ZE (Er ZE ?_);show _+1<=_+1;exact(Ln [aE.length,kJ.length,bn.length] (.w (.p 1 .x) (.p 1 .y)) [Gl .x .z,Gl (.p 1 .z) .y] rfl hl CF)) (by refine Er ZC ?_;exact(Ln [p.2.length-1,f,s.length,p.2.length] (.w (.p 1 .x) .y) [Gl (.p 1 .z) (.p 1 .y),Gl (.p 1 .u) .z,Ge (.p 1 .x) .u] rfl hf K9 (Za (n:=p.2.length) (m:=1) (Ln [p.2.length,row.length,kJ.length,(drop (1:Nat) p.2).length] (.w (.c 1) .x) [Gj (.s (.n .y) (.n .x)) (.n .z),Gk (.s (.n .y) (.n .u)) (.p 1 (.n .z))] rfl yJ ‹(↑row.length:Int)-(↑(drop (1:Nat) p.2).length:Int)=(↑kJ.length:Int)+(1:Int)›))))).cons λR hR=>?_
    exact v9 [.v 1 h1,.b 0 h2,.c 2 h3,.t 0 hA,.v 1 h4,.b 0 h5,.lp 2 hR] rfl
   refine Er (YW q2) ?_;have h5:=(Y1 q2)▸h5
   by_cases q3:p.2.take 1=[93]
   .refine Er (YV q3) ?_
    rw[Y0 q3]at h6;refine(ih kJ p.2 ((row.length:Int)-p.2.length) (aE++[p.1]) (.fz p.1) ve yJ (by refine Er ZE ?_;show _+1<=_;exact(Ln [aE.length,kJ.length,bn.length] (.w (.p 1 .x) .y) [Gl .x .z,Gl (.p 1 .z) .y] rfl hl CF)) (Ln [p.2.length,f,s.length] (.w (.p 1 .x) .y) [Gl (.p 1 .z) (.p 1 .y),Gl (.p 1 .x) .z] rfl hf K9)).cons λR hR=>?_
    exact v9 [.v 1 h1,.b 0 h2,.c 2 h3,.t 0 hA,.v 1 h4,.b 0 h5,.v 2 h4,.b 0 h6,.lp 1 hR] rfl
   .refine Er (YW q3) ?_
    rw[Y1 q3]at h6;have:∃b4,ms ⟨P.glob,cF P n,[],false⟩ [.fz (sT row),.fz (.int a),.fz (.int m),.no,.own (.list aE),s5] vC vB [5] (f+1)=some (.error aB,b4):=by
     exact⟨[Slot.fz (str {cps:=row.toArray}),Slot.fz (int ((↑row.length:Int)-(↑p.2.length:Int))),Slot.fz (int m),Slot.no,Slot.own (list (aE++[p.1])),Slot.fz p.1],v9 [.v 1 h1,.b 0 h2,.c 2 h3,.t 0 hA,.v 1 h4,.b 0 h5,.v 2 h4,.b 0 h6] rfl⟩
    exact aQ this λb4 h=>(.bad b4 h)
theorem kj {row:List Nat} (hr:row=bn++s):row=bn++(wd s++wr s):=by rw[<- iz];exact hr
theorem uh {row:List Nat} (hr:row=bn++s):(row.length:Int)-(wr s).length=bn.length+(wd s).length:=by
 exact Er (kj hr) (Er ZE (Er ZE (Le [bn.length,(wd s).length,(wr s).length] (.j (.s (.n (.a .x (.a .y .z))) (.n .z)) (.a (.n .x) (.n .y))) [] rfl)))
theorem Dh (n:Nat):∀(r:Nat) (row bn s:List Nat) (a m:Int),m=r->row=bn++s->a=bn.length->row.length<Sz->cF P (n+r+2) false 15 [.fz (sT row),.fz (.int a),.fz (.int m)]=vR row (val r s):=by
 intro r row bn s a m hm hr ha hz
 induction r generalizing row bn s a m hr ha hz with
 |zero=>
  subst hm;exact aJ [] rfl
 |succ r ih=>
  have h0:ag .eq (.int m) (.int 0)=some false:=by rw[dY];exact Er (Y1 (by exact(λe6=>(dW [r] [m] [Gk .x (.n (.p 1 .x)),Gj .x (.c 0)] rfl hm e6)))) rfl
  have h1:=gm hr ha;have h2:=gR (s.take 1) [91];unfold val
  by_cases q:s.take 1=[91]
  .refine Er (YV q) ?_
   have h2:=(Y0 q)▸h2;obtain⟨ve,yJ,_⟩:=sO hr q;have lp:=Ac (n+r+2) r row hz m (λbn s a hr ha=>ih row bn s a (m-1) (rT [r] [m] (.j (.s .x (.c 1)) (.n .x)) [Gr .x (.n (.p 1 .x))] rfl hm) hr ha hz) Sz (bn++[91]) (s.drop 1) (a+1) [] .no ve (Er ha (Er yJ rfl)) (Y8 _) (by
    have h4:=Y2 length hr;rw[ZE]at h4;refine Er ZC ?_;exact(Ln [s.length-1,row.length,bn.length,s.length] (.w (.p 1 .x) (.c 16777216)) [Gl (.p 1 .y) (.c 16777216),Gf .y (.a .z .u),Ge (.p 1 .x) .u] rfl hz h4 (Za (n:=s.length) (m:=1) (Ln [s.length,row.length,(drop (1:Nat) s).length,bn.length] (.w (.c 1) .x) [Gk (.s (.n .y) (.n .z)) (.p 1 (.n .u)),Ge .y (.a .u .x)] rfl ‹(↑row.length:Int)-(↑(drop (1:Nat) s).length:Int)=(↑bn.length:Int)+(1:Int)› h4))))
   generalize bT (val r) Sz (s.drop 1)=o at lp;cases lp with
   |bad fr lp=>show _=some (Except.error aB,[]);exact aJ [.b 0 h0,.v 2 h1,.b 0 h2,.lp 2 lp] rfl
   |good ds t lp=>
    rw[Zk]at lp;show _=some (Except.ok (Rv.fz (.tuple [.tuple ds,.int ((row.length:Int)-t.length)])),[])
    exact Er (show(row.length:Int)-t.length=(row.length:Int)-t.length-1+1 by exact(Le [row.length,t.length] (.j (.s (.n .x) (.n .y)) (.p 1 (.s (.s (.n .x) (.n .y)) (.c 1)))) [] rfl)) (aJ [.b 0 h0,.v 2 h1,.b 0 h2,.lp 2 lp] rfl)
  .refine Er (YW q) ?_
   have h2:=(Y1 q)▸h2;have h4:=AZ (n+r+1) (wd s);cases e:xu (wd s) with
   |none=>
    have h4:=e▸h4;show _=some (Except.error aB,[])
    exact aJ [.b 0 h0,.v 2 h1,.b 0 h2,.c 1 ((gV (n+r+1) (kj hr) ha (mu s) (jn s) hz)),.c 0 h4] rfl
   |some i=>
    rw[e]at h4;show _=some (Except.ok (Rv.fz (.tuple [.int i,.int ((row.length:Int)-(wr s).length)])),[])
    exact Er (uh hr) (Er ha.symm (aJ [.b 0 h0,.v 2 h1,.b 0 h2,.c 1 ((gV (n+r+1) (kj hr) ha (mu s) (jn s) hz)),.c 0 h4,.v 0 ((rfl:dD .len [sT (wd s)]=some (.fz (.int (wd s).length))))] rfl))
noncomputable def go (s:List Nat):Bool:=decide (s.take 1=[91])||(decide (s.take 1=[45])||(s.take 1).all figuresN.contains && !(wd s).isEmpty)
noncomputable def plain (s:List Nat):Option (T×List Nat):=if go s=true then(val 50 s).map λp=>(.val p.1,p.2) else some (.nam ⟨⟨wd s⟩⟩,wr s)
noncomputable def tR (row:List Nat) (o:Option (T×List Nat)):Option (Except Str Rv×List Slot):=match o with
 |none=>HG []
 |some (t,r)=>some (.ok (.fz (.tuple [cM t,.int ((row.length:Int)-r.length)])),[])
theorem uQ {t:T} (h:plain s=some (t,u)):m7 0 s u:=by
 unfold plain at h
 by_cases q:go s=true
 .rw[YV q]at h
  obtain⟨⟨d,u'⟩,e,h⟩:=Z9 h;cases h;exact(nk _ _ _ _ e).mono (Y8 _)
 .rw[YW q]at h;cases h
  exact⟨wd s,iz s,Y8 _⟩
theorem uR (n:Nat) {row:List Nat} (hr:row=bn++s) (ha:a=bn.length) (hz:row.length<Sz):cF P (n+53) false 17 [.fz (sT row),.fz (.int a)]=tR row (plain s):=by
 have h1:=gm hr ha;have h2:=lI (s.take 1) [91];have h3:=lI (s.take 1) [45];have h4:=gV (n+51) (kj hr) ha (mu s) (jn s) hz;have h5:=gR (wd s) [];have hv:=Dh n 50 row bn s a 50 rfl hr ha hz;have hl:dD .len [sT (wd s)]=some (.fz (.int (wd s).length)):=rfl;have key:go s=true->cF P (n+53) false 17 [.fz (sT row),.fz (.int a)]=tR row ((val 50 s).map λp=>(.val p.1,p.2)):=λq=>by
  have M8:(decide (s.take 1=[91])=true\/decide (s.take 1=[91])=false/\decide (s.take 1=[45])=true)\/(decide (s.take 1=[91])=false/\decide (s.take 1=[45])=false/\ ∃c w,wd s=c::w/\figuresN.contains c=true):=by
   unfold go at q;rw[Z4,Z4,Z7]at q;cases b1:decide (s.take 1=[91]) with
   |true=>exact .inl (.inl rfl)
   |false=>
   cases b2:decide (s.take 1=[45]) with
   |true=>exact .inl (.inr ⟨rfl,rfl⟩)
   |false=>
    rw[b1,b2]at q
    rcases q with q|q|q
    .cases q
    .cases q
    refine .inr ⟨rfl,rfl,?_⟩;cases hw:wd s with
    |nil=>rw[hw]at q;exact absurd q.2 (by decide)
    |cons c w=>
     refine⟨c,w,rfl,?_⟩;have:=iz s;rw[hw]at this;rw[this]at q;exact all_eq_true.mp q.1 c Zn
  cases e:val 50 s with
  |none=>
   rw[e]at hv;have hv:=hv;show _=some (Except.error aB,[])
   rcases M8 with(b1|⟨b1,b2⟩)|⟨b1,b2,c,w,hw,hc⟩
   .have h2:=b1▸h2;exact aJ [.c 0 h4,.v 1 h1,.b 0 h2,.c 2 hv] rfl
   .have h2:=b1▸h2;rw[b2]at h3;exact aJ [.c 0 h4,.v 1 h1,.b 0 h2,.v 2 h1,.b 0 h3,.c 2 hv] rfl
   .rw[b1]at h2;rw[b2]at h3
    have h6:fU (sT (wd s)) (.int 0)=some (.str ⟨#[c]⟩):=by refine Er hw ?_;rfl
    have h7:=(yp c).trans (Y2 some hc);rw[hw,Y1 (by intro z;cases z)]at h5;rw[hw]at h4 h6;exact aJ [.c 0 h4,.v 1 h1,.b 0 h2,.v 2 h1,.b 0 h3,.b 4 h7,.c 1 hv] rfl
  |some p=>
   rw[e]at hv;have hv:=hv;show _=some (Except.ok (Rv.fz (.tuple [cM (.val p.1),.int ((row.length:Int)-p.2.length)])),[])
   rw[cM]
   rcases M8 with(b1|⟨b1,b2⟩)|⟨b1,b2,c,w,hw,hc⟩
   .rw[b1]at h2;exact aJ [.c 0 h4,.v 1 h1,.b 0 h2,.c 2 hv] rfl
   .rw[b1]at h2;rw[b2]at h3;exact aJ [.c 0 h4,.v 1 h1,.b 0 h2,.v 2 h1,.b 0 h3,.c 2 hv] rfl
   .rw[b1]at h2;rw[b2]at h3
    have h6:fU (sT (wd s)) (.int 0)=some (.str ⟨#[c]⟩):=by refine Er hw ?_;rfl
    rw[hw,Y1 (by intro z;cases z)]at h5;rw[hw]at h4 h6;exact aJ [.c 0 h4,.v 1 h1,.b 0 h2,.v 2 h1,.b 0 h3,.b 4 (((yp c).trans (Y2 some hc))),.c 1 hv] rfl
 unfold plain
 by_cases q:go s=true
 .exact Er (YV q) (key q)
 refine Er (YW q) ?_;unfold go at q;rw[not_eq_true,or_eq_false_iff,or_eq_false_iff]at q;rw[q.1]at h2;rw[q.2.1]at h3;show _=some (Except.ok (Rv.fz (.tuple [cM (.nam ⟨⟨wd s⟩⟩),.int ((row.length:Int)-(wr s).length)])),[])
 rw[cM];refine Er (uh hr) ?_;refine Er ha.symm ?_;cases hw:wd s with
 |nil=>
  rw[hw]at h4 h5 hl;have h5:=h5;exact aJ [.c 0 h4,.v 1 h1,.b 0 h2,.v 2 h1,.b 0 h3,.v 4 hl] rfl
 |cons c w=>
  have hc:figuresN.contains c=false:=by
   have:=iz s;have this:=hw▸this;have q:=q.2.2;rw[hw]at q;have q:=this▸q;cases z:figuresN.contains c with
   |false=>rfl
   |true=>
    have:((c::w++wr s).take 1).all figuresN.contains=true:=by
     show([c].all figuresN.contains)=true
     refine Er ZO (Er z ?_);rfl
    have q:=this▸q;cases q
  have h6:fU (sT (c::w)) (.int 0)=some (.str ⟨#[c]⟩):=rfl;rw[hw]at h4 h5 hl;rw[Y1 (by intro z;cases z)]at h5;exact aJ [.c 0 h4,.v 1 h1,.b 0 h2,.v 2 h1,.b 0 h3,.b 4 (((yp c).trans (Y2 some hc))),.v 1 hl] rfl
noncomputable def fH (h:List Nat) (ps:List T):T:=if h=[105,102] then .iff ps else if cP ⟨⟨h⟩⟩=true then .doo ⟨⟨h⟩⟩ ps else .call ⟨⟨h⟩⟩ ps
noncomputable def cJ (e:List Nat->Option (T×List Nat)):Nat->List Nat->Option (List T×List Nat)
 |0,_=>none
 |f+1,s=>if s.take 1=[32] then match e (s.drop 1) with
  |none=>none
  |some (t,s')=>(cJ e f s').map λp=>(t::p.1,p.2)
  else some ([],s)
noncomputable def cW:Nat->List Nat->Option (T×List Nat)
 |0,_=>none
 |r+1,s=>if s.take 1=[40] then
   (if wd (s.drop 1)=fL then(if (wr ((wr (s.drop 1)).drop 1)).take 1=[41] then some (.ref ⟨⟨wd ((wr (s.drop 1)).drop 1)⟩⟩,(wr ((wr (s.drop 1)).drop 1)).drop 1) else none)
   else match cJ (cW r) Sz (wr (s.drop 1)) with
    |none=>none
    |some (ps,s2)=>if s2.take 1=[41] then some (fH (wd (s.drop 1)) ps,s2.drop 1) else none)
  else plain s
theorem jF {v:List Nat->Option (T×List Nat)} (hv:∀s d t,v s=some (d,t)->m7 0 s t):∀(f:Nat) (s:List Nat) (ds:List T) (t:List Nat),cJ v f s=some (ds,t)->m7 ds.length s t:=by
 intro f s ds t h
 induction f generalizing s ds t with
 |zero=>exact ah h
 |succ f ih=>
  unfold cJ at h
  by_cases q:s.take 1=[32]
  .rw[YV q]at h
   cases e:v (s.drop 1) with
   |none=>have h:=e▸h;exact ah h
   |some p=>
    rw[e]at h;obtain⟨⟨ke,t'⟩,e',h⟩:=Z9 h;cases h;exact(((oV q).trans (hv _ _ _ e)).trans (ih _ _ _ e')).mono (by show ke.length+1<=1+0+ke.length;exact(L0 [ke.length] (.p 1 .x) (.a (.p 0 (.c 1)) .x) rfl))
  .rw[YW q]at h;cases h;exact⟨[],rfl,Y8 _⟩
theorem kg (s:List Nat):m7 0 s (wr s):=⟨wd s,iz s,Y8 _⟩
theorem gQ (s:List Nat):m7 0 s (s.drop 1):=⟨s.take 1,(List.take_append_drop 1 s).symm,Y8 _⟩
theorem ll:∀(r:Nat) (s:List Nat) (d:T) (t:List Nat),cW r s=some (d,t)->m7 0 s t:=by
 intro r s d t h
 induction r generalizing s d t with
 |zero=>exact ah h
 |succ r ih=>
  unfold cW at h
  by_cases q:s.take 1=[40]
  .rw[YV q]at h
   by_cases q2:wd (s.drop 1)=fL
   .rw[YV q2]at h
    by_cases q3:(wr ((wr (s.drop 1)).drop 1)).take 1=[41]
    .rw[YV q3]at h;cases h
     exact(((((gQ s).trans (kg _)).trans (gQ _)).trans (kg _)).trans (gQ _)).mono (Y8 _)
    .rw[YW q3]at h;exact ah h
   .rw[YW q2]at h
    cases e:cJ (cW r) Sz (wr (s.drop 1)) with
    |none=>have h:=e▸h;exact ah h
    |some p=>
     have h:=e▸h;dsimp only at h
     by_cases q3:p.2.take 1=[41]
     .rw[YV q3]at h;cases h
      exact((((gQ s).trans (kg _)).trans (jF ih _ _ _ _ e)).trans (gQ _)).mono (Y8 _)
     .rw[YW q3]at h;exact ah h
  .rw[YW q]at h;exact uQ h
theorem vZ (n:Nat) (h:List Nat) (ps:List T) (hl:ps.length<Sz):cF P (n+2) false 16 [.fz (sT h),.fz (.list (bj ps))]=some (.ok (.fz (cM (fH h ps))),[]):=by
 have h1:=lI h [105,102];have ho:=kY n ⟨⟨h⟩⟩;unfold fH
 by_cases q:h=[105,102]
 .refine Er (YV q) ?_
  rw[Y0 q]at h1;have ha:op2 .add (.tuple [S [105,102]]) (.tuple (bj ps))=some (.fz (.tuple (S [105,102]::bj ps))):=YV (by rw[gP,ZB];show 1+_<=_;exact(L1 [ps.length] (.a (.c 1) .x) (.c 16777216) (.p 1 .x) (.c 16777216) rfl hl));rw[cM];exact aJ [.b 0 h1,.v 2 ha] rfl
 refine Er (YW q) ?_;rw[Y1 q]at h1
 by_cases q2:cP ⟨⟨h⟩⟩=true
 .refine Er (YV q2) ?_
  rw[q2]at ho;rw[cM];exact aJ [.b 0 h1,.c 1 ho] rfl
 .refine Er (YW q2) ?_
  rw[not_eq_true]at q2;rw[q2]at ho;rw[cM];exact aJ [.b 0 h1,.c 1 ho] rfl
noncomputable abbrev eC:Ex:=.cmp .eq (.slc (aa 0) (aa 1) (.op2 .add (aa 1) (ai 1))) (.lit (S [32]))
noncomputable abbrev eB:List St:=[.asg (.tup [7,1]) (.call 18 [aa 0,.op2 .add (aa 1) (ai 1),.op2 .sub (aa 2) (ai 1)]),
    .app (.var 6) (aa 7)]
inductive GB (n:Nat) (row:List Nat) (m:Int) (s3:Slot) (aE:List D) (f:Nat) (fr:Mv.Fm):Option (List T×List Nat)->Prop
 |bad b4 :ms ⟨P.glob,cF P n,[],false⟩ fr eC eB [7] f=some (.error aB,b4)->GB n row m s3 aE f fr none
 |good (ds:List T) (t:List Nat):ms ⟨P.glob,cF P n,[],false⟩ fr eC eB [7] f=some (.ok .next,[.fz (sT row),.fz (.int ((row.length:Int)-t.length)),.fz (.int m),s3,.no,.no,.own (.list (aE++bj ds)),.no])->GB n row m s3 aE f fr (some (ds,t))
theorem GB.cons {n:Nat} {row:List Nat} {m:Int} {s3:Slot} {aE:List D} {f f':Nat} {fr b4:Mv.Fm} {d:T} {o:Option (List T×List Nat)} (h:GB n row m s3 (aE++[cM d]) f fr o)
  (k:∀R,ms ⟨P.glob,cF P n,[],false⟩ fr eC eB [7] f=some R->ms ⟨P.glob,cF P n,[],false⟩ b4 eC eB [7] f'=some R):GB n row m s3 aE f' b4 (o.map λp=>(d::p.1,p.2)):=by
 cases h with
 |bad fr h=>exact .bad fr (k _ h)
 |good ds t h=>exact .good (d::ds) t (by rw[ZM]at h;exact k _ h)
theorem E6 (n:Nat) (r:Nat) (row:List Nat) (hz:row.length<Sz) (m:Int) (s3:Slot) (H:∀(bn s:List Nat) (a:Int),row=bn++s->a=bn.length->cF P n false 18 [.fz (sT row),.fz (.int a),.fz (.int (m-1))]=tR row (cW r s)):
  ∀(f:Nat) (bn s:List Nat) (a:Int) (aE:List D) (s7:Slot),row=bn++s->a=bn.length->aE.length<=bn.length->s.length<f->GB n row m s3 aE f [.fz (sT row),.fz (.int a),.fz (.int m),s3,.no,.no,.own (.list aE),s7] (cJ (cW r) f s):=by
 intro f bn s a aE s7 hr ha hl hf
 induction f generalizing bn s a aE s7 hr ha hl with
 |zero=>exact absurd hf (not_lt_zero _)
 |succ f ih=>
  have h2:=lI (s.take 1) [32];unfold cJ
  by_cases q:s.take 1=[32]
  .refine Er (YV q) ?_
   rw[Y0 q]at h2;obtain⟨ve,yJ,_⟩:=sO hr q;have h3:=H _ _ (a+1) ve (Er ha (Er yJ rfl));cases e:cW r (s.drop 1) with
   |none=>
    rw[e]at h3;have:∃b4,ms ⟨P.glob,cF P n,[],false⟩ [.fz (sT row),.fz (.int a),.fz (.int m),s3,.no,.no,.own (.list aE),s7] eC eB [7] (f+1)=some (.error aB,b4):=by
     exact⟨[Slot.fz (str {cps:=row.toArray}),Slot.fz (int a),Slot.fz (int m),s3,Slot.no,Slot.no,Slot.own (list aE),Slot.no],v9 [.v 1 ((gm hr ha)),.b 0 h2,.c 3 h3] rfl⟩
    exact aQ this λb4 h=>(.bad b4 h)
   |some p=>
    rw[e]at h3;have S1:=(oV q).trans (ll _ _ _ _ e);refine aQ (lL hr S1) λkJ Q=>?_
    have h4:=Y2 length hr;have h5:=Y2 length Q.1;rw[ZE]at h4 h5;refine(ih kJ p.2 ((row.length:Int)-p.2.length) (aE++[cM p.1]) (.fz (cM p.1)) Q.1 Q.2 (by refine Er ZE ?_;show _+1<=_;exact(Ln [aE.length,kJ.length,bn.length,row.length,p.2.length,s.length] (.w (.p 1 .x) .y) [Gl .x .z,Gj (.s (.n .u) (.n (.v 4))) (.n .y),Gl (.a (.v 4) (.p 0 (.c 1))) (.v 5),Gf .u (.a .z (.v 5))] rfl hl Q.2 S1.len h4)) (Ln [p.2.length,f,s.length] (.w (.p 1 .x) .y) [Gl (.p 1 .z) (.p 1 .y),Gl (.a .x (.p 0 (.c 1))) .z] rfl hf S1.len)).cons λR hR=>?_
    exact v9 [.v 1 ((gm hr ha)),.b 0 h2,.c 3 h3,.t 0 ((Y0 (Ln [aE.length,row.length,bn.length,(drop (1:Nat) s).length] (.w (.p 1 .x) (.c 16777216)) [Gl (.p 1 .y) (.c 16777216),Gl .x .z,Gk (.s (.n .y) (.n .u)) (.p 1 (.n .z))] rfl hz hl ‹(↑row.length:Int)-(↑(drop (1:Nat) s).length:Int)=(↑bn.length:Int)+(1:Int)›):decide (aE.length<Sz)=true)),.lp 0 hR] rfl
  .refine Er (YW q) ?_
   rw[Y1 q]at h2;refine .good [] _ ?_;refine Er (show bj []=[] from rfl) ?_;rw[ZL];exact Er (show(row.length:Int)-s.length=a by refine Er ha (Er hr (Er ZE ?_));exact(Le [bn.length,s.length] (.j (.s (.n (.a .x .y)) (.n .y)) (.n .x)) [] rfl)) (v9 [.v 1 ((gm hr ha)),.b 0 h2] rfl)
theorem tn (row:List Nat) (a b:Int) (ha:(row.length:Int)<=a) (hb:(row.length:Int)<=b):eS (sT row) (.int a) (.int b)=some (.fz (sT [])):=by
 obtain⟨x,rfl⟩:∃x:Nat,a=x:=⟨a.toNat,by exact((ZQ (a:=a) (d7 [row.length] [a] 1 (.i (.c 0) .x) [Gi (.n .x) .x] rfl ha)).symm)⟩
 obtain⟨z,rfl⟩:∃x:Nat,b=x:=⟨b.toNat,by exact((ZQ (a:=b) (d7 [row.length] [b] 1 (.i (.c 0) .x) [Gi (.n .x) .x] rfl hb)).symm)⟩
 rw[nH];refine Er (Nat.min_eq_right (by exact(Ln [row.length,x] (.w .x .y) [Gi (.n .x) (.n .y)] rfl ha))) ?_;refine Er (Nat.min_eq_right (by exact(Ln [row.length,z] (.w .x .y) [Gi (.n .x) (.n .y)] rfl hb))) ?_;unfold cB;rw[Nat.sub_self];exact Er take_zero rfl
set_option maxHeartbeats 4000000 in
theorem IY (n:Nat):∀(r:Nat) (row bn s:List Nat) (a m:Int),m=r->row=bn++s->a=bn.length->row.length<Sz->cF P (n+r+54) false 18 [.fz (sT row),.fz (.int a),.fz (.int m)]=tR row (cW r s):=by
 intro r row bn s a m hm hr ha hz
 induction r generalizing row bn s a m hr ha hz with
 |zero=>
  subst hm;exact aJ [] rfl
 |succ r ih=>
  have h0:ag .eq (.int m) (.int 0)=some false:=by rw[dY,Y1 (by exact(λe6=>(dW [r] [m] [Gk .x (.n (.p 1 .x)),Gj .x (.c 0)] rfl hm e6)))]
  have h1:=gm hr ha;have h2:=gR (s.take 1) [40];unfold cW
  by_cases q:s.take 1=[40]
  rotate_left
  .refine Er (YW q) ?_
   have h2:=(Y1 q)▸h2;have h3:=uR (n+r+1) hr ha hz;cases e:plain s with
   |none=>
    have h3:=e▸h3;exact aJ [.b 0 h0,.v 2 h1,.b 0 h2,.c 1 h3] rfl
   |some p=>
    rw[e]at h3;exact aJ [.b 0 h0,.v 2 h1,.b 0 h2,.c 1 h3] rfl
  refine Er (YV q) ?_;have h2:=(Y0 q)▸h2;have Q:=sO hr q;have ve:=Q.1;have yJ:=Q.2.1;have IK:a+1=((bn++[40]).length:Int):=by exact Er ha (Er yJ rfl)
  generalize MW:s.drop 1=s' at ve;have h3:=gV (n+r+53) (kj ve) IK (mu s') (jn s') hz;have Gm:dD .len [sT (wd s')]=some (.fz (.int (wd s').length)):=rfl;have h4:=lI (wd s') fL;refine aQ (lL ve (kg s')) λuP Z=>?_;have Bn:=Z.1;have IJ:=Z.2
  have EM:a+1+((wd s').length:Int)=uP.length:=by exact Er IJ.symm (Er (uh ve) (Er IK rfl))
  by_cases q2:wd s'=fL
  .refine Er (YV q2) ?_
   have h4:=(Y0 q2)▸h4;cases hw:wr s' with
   |nil=>
    have bH:(row.length:Int)=a+1+((wd s').length:Int):=by refine Er EM ?_;refine Er Bn ?_;refine Er hw ?_;rw[ZL]
    have w0:cF P (n+r+54) false 13 [.fz (sT row),.fz (.int (a+1+((wd s').length:Int)+1))]=some (.ok (.fz (sT [])),[]):=by
     have hc:ag .lt (.int (a+1+((wd s').length:Int)+1)) (.int row.length)=some false:=by rw[bz,Y1 (by exact(λHN=>(dW [row.length,(wd s').length] [a] [Gj (.n .x) (.a (.p 1 .x) (.n .y)),Gi (.p 1 (.p 1 (.a (.p 1 .x) (.n .y)))) (.n .x)] rfl bH HN)))]
     have lp:ms ⟨P.glob,cF P (n+r+53),[],false⟩ [.fz (sT row),.fz (.int (a+1+((wd s').length:Int)+1)),.fz (.int (a+1+((wd s').length:Int)+1))] wC wB [] Sz=some (.ok .next,[.fz (sT row),.fz (.int (a+1+((wd s').length:Int)+1)),.fz (.int (a+1+((wd s').length:Int)+1))]):=by
      exact v9 [.v 0 ((rfl:dD .len [sT row]=some (.fz (.int row.length)))),.b 0 hc] rfl
     exact aJ [.lp 0 lp,.v 0 ((tn row (a+1+((wd s').length:Int)+1) (a+1+((wd s').length:Int)+1) (d7 [row.length,(wd s').length] [a] 1 (.i (.n .x) (.p 1 (.a (.p 1 .x) (.n .y)))) [Gj (.n .x) (.a (.p 1 .x) (.n .y))] rfl bH) (d7 [row.length,(wd s').length] [a] 1 (.i (.n .x) (.p 1 (.a (.p 1 .x) (.n .y)))) [Gj (.n .x) (.a (.p 1 .x) (.n .y))] rfl bH)))] rfl
    obtain⟨w,N8⟩:∃w:List Nat,w=[]:=⟨_,rfl⟩
    rw[<- N8]at w0;have h9:ag .ne (sT []) (S [41])=some true:=by kernel_rfl
    exact aJ [.b 0 h0,.v 2 h1,.b 0 h2,.c 2 h3,.v 1 Gm,.b 1 h4,.c 2 w0,.v 1 ((rfl:dD .len [sT w]=some (.fz (.int w.length)))),.v 2 ((tn row (a+1+((wd s').length:Int)+1+(w.length:Int)) (a+1+((wd s').length:Int)+1+(w.length:Int)+1) (d7 [row.length,(wd s').length,w.length] [a] 1 (.i (.n .x) (.a (.p 1 (.a (.p 1 .x) (.n .y))) (.n .z))) [Gj (.n .x) (.a (.p 1 .x) (.n .y))] rfl bH) (d7 [row.length,(wd s').length,w.length] [a] 1 (.i (.n .x) (.p 1 (.a (.p 1 (.a (.p 1 .x) (.n .y))) (.n .z)))) [Gj (.n .x) (.a (.p 1 .x) (.n .y))] rfl bH)))] rfl
   |cons b s2=>
    have z5:row=(uP++[b])++s2:=by refine Er Bn ?_;refine Er hw ?_;rw[ZM];rfl
    have LJ:a+1+((wd s').length:Int)+1=((uP++[b]).length:Int):=by refine Er EM (Er ZE ?_);rfl
    refine aQ (lL z5 (kg s2)) λHi u=>?_
    have EL:a+1+((wd s').length:Int)+1+((wd s2).length:Int)=Hi.length:=by exact Er u.2.symm (Er (uh z5) (Er LJ rfl))
    have h7:=gR ((wr s2).take 1) [41];refine Er List.drop_succ_cons (Er ZI ?_)
    by_cases q3:(wr s2).take 1=[41]
    .refine Er (YV q3) ?_
     rw[Y0 q3]at h7;show _=some (Except.ok (Rv.fz (.tuple [cM (.ref ⟨⟨wd s2⟩⟩),.int ((row.length:Int)-((wr s2).drop 1).length)])),[])
     rw[cM];exact Er ((sO u.1 q3).2.2) (Er EL.symm (aJ [.b 0 h0,.v 2 h1,.b 0 h2,.c 2 h3,.v 1 Gm,.b 1 h4,.c 2 ((gV (n+r+53) (kj z5) LJ (mu s2) (jn s2) hz)),.v 1 ((rfl:dD .len [sT (wd s2)]=some (.fz (.int (wd s2).length)))),.v 2 ((gm u.1 EL)),.b 0 h7] rfl))
    .refine Er (YW q3) ?_
     rw[Y1 q3]at h7;exact aJ [.b 0 h0,.v 2 h1,.b 0 h2,.c 2 h3,.v 1 Gm,.b 1 h4,.c 2 ((gV (n+r+53) (kj z5) LJ (mu s2) (jn s2) hz)),.v 1 ((rfl:dD .len [sT (wd s2)]=some (.fz (.int (wd s2).length)))),.v 2 ((gm u.1 EL)),.b 0 h7] rfl
  refine Er (YW q2) ?_;have h4:=(Y1 q2)▸h4;have hp:=Y2 length Bn;have hp:=ZE▸hp;have lp:=E6 (n+r+54) r row hz m (.fz (sT (wd s'))) (λbn s a hr ha=>ih row bn s a (m-1) (rT [r] [m] (.j (.s .x (.c 1)) (.n .x)) [Gr .x (.n (.p 1 .x))] rfl hm) hr ha hz) Sz uP (wr s') (a+1+((wd s').length:Int)) [] .no Bn EM (Y8 _) (Ln [(wr s').length,row.length,uP.length] (.w (.p 1 .x) (.c 16777216)) [Gl (.p 1 .y) (.c 16777216),Gk (.s (.n .y) (.n .x)) (.n .z)] rfl hz IJ);generalize ho:cJ (cW r) Sz (wr s')=o at lp;cases lp with
  |bad fr lp=>show _=some (Except.error aB,[]);exact aJ [.b 0 h0,.v 2 h1,.b 0 h2,.c 2 h3,.v 1 Gm,.b 1 h4,.lp 1 lp] rfl
  |good ps t lp=>
   rw[Zk]at lp;have hb:=vZ (n+r+52) (wd s') ps (Ln [ps.length,row.length,(wr s').length,uP.length,t.length] (.w (.p 1 .x) (.c 16777216)) [Gl (.p 1 .y) (.c 16777216),Gk (.s (.n .y) (.n .z)) (.n .u),Gl (.a (.v 4) .x) .z] rfl hz IJ (jF (ll r) _ _ _ _ ho).len);refine aQ (lL Bn (jF (ll r) _ _ _ _ ho)) λHi z=>?_
   have h7:=gR (t.take 1) [41];dsimp only
   by_cases q3:t.take 1=[41]
   .refine Er (YV q3) ?_
    rw[Y0 q3]at h7;show _=some (Except.ok (Rv.fz (.tuple [cM (fH (wd s') ps),.int ((row.length:Int)-(t.drop 1).length)])),[])
    exact Er ((sO z.1 q3).2.2) (Er z.2.symm (aJ [.b 0 h0,.v 2 h1,.b 0 h2,.c 2 h3,.v 1 Gm,.b 1 h4,.lp 1 lp,.c 0 hb,.v 1 ((gm z.1 z.2)),.b 0 h7] rfl))
   .refine Er (YW q3) ?_
    rw[Y1 q3]at h7;exact aJ [.b 0 h0,.v 2 h1,.b 0 h2,.c 2 h3,.v 1 Gm,.b 1 h4,.lp 1 lp,.c 0 hb,.v 1 ((gm z.1 z.2)),.b 0 h7] rfl
theorem BQ:∀(l:List Nat) (a n:Nat),ek a l=some n->n<(a+1)*10 ^ l.length:=by
 intro l a n h
 induction l generalizing a n with
 |nil=>refine Er (aF h) ?_;simp
 |cons c l ih=>
  unfold ek at h
  by_cases q:48<=c/\c<=57
  .rw[YV q]at h
   have:=ih _ n h;refine Er ZD ?_;rw[pow_succ,Zb (10 ^ l.length) 10,<- Nat.mul_assoc];exact Ze this (Nat.mul_le_mul_right _ (Ln [a*10,c-48,(a+1)*10,c,a] (.w (.p 1 (.a .x .y)) .z) [Gl .u (.c 57),Ge .x (.m 10 (.v 4)),Ge (.p 48 .y) .u,Gf .z (.m 10 (.p 1 (.v 4)))] rfl q.2 (Zb a ((10:Nat))) (Za (n:=c) (m:=48) (L1 [c] (.c 48) .x (.c 48) .x rfl q.1)) (Zb (a+(1:Nat)) ((10:Nat)))))
  .rw[YW q]at h;exact ah h
theorem pD {l:List Nat} (h:ek 0 l=some n) (hl:1<=l.length):(dI n).length<=l.length:=by
 have:=BQ l 0 n h;obtain⟨k,hk⟩:∃k,l.length=k+1:=⟨l.length-1,by exact((Za (n:=l.length) (m:=1) hl).symm)⟩
 rw[hk]at this ⊢;exact(nT k n (by omega)).le
theorem wJ {w:List Nat} (h:xu w=some i):(cK i).length<=w.length:=by
 unfold xu at h
 by_cases q:gp (dh w)=true
 .rw[YV q]at h
  unfold gp at q;rw[Z7,YZ]at q;cases w with
  |nil=>exact ah h
  |cons c r=>
   have h:(if c=45 then(if r.isEmpty then none else(ek 0 r).map λ(n:Nat)=>-(n:Int)) else(ek 0 (c::r)).map λ(n:Nat)=>(n:Int))=some i:=h
   by_cases z:c=45
   .rw[YV z]at h
    cases r with
    |nil=>exact ah h
    |cons b r=>
     obtain⟨n,hn,rfl⟩:=Z9 (show(ek 0 (b::r)).map (λ(n:Nat)=>-(n:Int))=some i from h);have:=pD hn (by refine Er ZD ?_;exact(L0 [r.length] (.c 1) (.p 1 .x) rfl));unfold cK;rw[Int.natAbs_neg,Int.natAbs_natCast]
     split
     .exact Er ZD (Er ZD (L1 [(dI n).length,r.length] (.p 1 .x) (.p 1 (.p 1 .y)) .x (.p 1 .y) rfl this))
     .exact Er (ZD (a:=c)) (L1 [(dI n).length,r.length] .x (.p 1 (.p 1 .y)) .x (.p 1 .y) rfl this)
   .rw[YW z]at h
    refine aQ (Z9 h) λn Q=>?_;refine Er Q.2.symm ?_
    have:=pD Q.1 (by refine Er ZD ?_;exact(L0 [r.length] (.c 1) (.p 1 .x) rfl));unfold cK;refine Er (YW (by exact(λHV=>(Lf [n] [Gi (.p 1 (.n .x)) (.c 0)] rfl HV)))) ?_;rw[Int.natAbs_natCast];exact this
 .have h:=(YW q)▸h;exact ah h
theorem join_one (x:List Nat) (l:List (List Nat)):(au [32] (x::l)).length<=x.length+1+(au [32] l).length:=by
 cases l with
 |nil=>show x.length<=x.length+1+0;exact(L0 [x.length] .x (.p 0 (.p 1 .x)) rfl)
 |cons y r=>show(x++[32]++au [32] (y::r)).length<=_;exact Er ZE (Er ZE (Er Zx (L0 [x.length,(au [32] (y::r)).length] (.a (.p 1 .x) .y) (.a (.p 1 .x) .y) rfl)))
theorem iY (h:s.take 1=[c]):s.length=(s.drop 1).length+1:=by
 have:=Y2 length (nB h);rw[ZD]at this;exact this
theorem uu (hv:∀s d t,v s=some (d,t)->(kq d).length+t.length<=s.length):∀(f:Nat) (s:List Nat) (ds:List D) (t:List Nat),bT v f s=some (ds,t)->(au [32] (cD ds)).length+1+t.length<=s.length:=by
 intro f s ds t h
 induction f generalizing s ds t with
 |zero=>exact ah h
 |succ f ih=>
  unfold bT at h
  by_cases q:s.take 1=[93]
  .have h:=(YV q)▸h;cases h
   have:=iY q;exact(Ln [(drop (1:Nat) s).length,s.length] (.w (.a (.p 1 (.c 0)) .x) .y) [Gf .y (.p 1 .x)] rfl this)
  rw[YW q]at h;cases e:v s with
  |none=>have h:=e▸h;exact ah h
  |some p=>
   rw[e]at h;dsimp only at h
   by_cases q:p.2.take 1=[32]
   .have h:=(YV q)▸h
    obtain⟨⟨ke,t'⟩,e',h⟩:=Z9 h;cases h;exact(Ln [(au [32] (kq p.1::cD ke)).length,t'.length,s.length,(kq p.1).length,p.2.length,(au [32] (cD ke)).length,(drop (1:Nat) p.2).length] (.w (.a (.p 1 .x) .y) .z) [Gl (.a .u (.v 4)) .z,Gl (.a (.p 1 (.v 5)) .y) (.v 6),Gf (.v 4) (.p 1 (.v 6)),Gl .x (.a (.p 1 .u) (.v 5))] rfl (hv _ _ _ e) (ih _ _ _ e') (iY q) (join_one (kq p.1) (cD ke)))
   rw[YW q]at h
   by_cases q:p.2.take 1=[93]
   .rw[YV q]at h
    obtain⟨⟨ke,t'⟩,e',h⟩:=Z9 h;cases h;cases f with
    |zero=>exact ah e'
    |succ f=>
     unfold bT at e';rw[YV q]at e';cases e';exact(Ln [(kq p.1).length,(drop (1:Nat) p.2).length,s.length,p.2.length] (.w (.a (.p 1 .x) .y) .z) [Gl (.a .x .u) .z,Gf .u (.p 1 .y)] rfl (hv _ _ _ e) (iY q))
   .have h:=(YW q)▸h;exact ah h
theorem Aa:∀(r:Nat) (s:List Nat) (d:D) (t:List Nat),val r s=some (d,t)->(kq d).length+t.length<=s.length:=by
 intro r s d t h
 induction r generalizing s d t with
 |zero=>exact ah h
 |succ r ih=>
  unfold val at h
  by_cases q:s.take 1=[91]
  .rw[YV q]at h
   obtain⟨⟨ds,t'⟩,e',h⟩:=Z9 h;cases h;exact Er ZD (Er ZE (Er Zx (Ln [(au [32] (cD ds)).length,t'.length,s.length,(drop (1:Nat) s).length] (.w (.a (.p 1 (.p 1 .x)) .y) .z) [Gl (.a (.p 1 .x) .y) .u,Gf .z (.p 1 .u)] rfl (uu ih _ _ _ _ e') (iY q))))
  .rw[YW q]at h
   obtain⟨i,e',h⟩:=Z9 h;cases h;have h2:=Y2 length (iz s);rw[ZE]at h2;exact(Ln [(cK i).length,(wr s).length,s.length,(wd s).length] (.w (.a .x .y) .z) [Gl .x .u,Gf .z (.a .u .y)] rfl (wJ e') h2)
theorem plain_len {t:T} (h:plain s=some (t,u)):(tx t).length+u.length<=s.length:=by
 unfold plain at h
 by_cases q:go s=true
 .rw[YV q]at h
  obtain⟨⟨d,u'⟩,e,h⟩:=Z9 h;cases h;exact Aa _ _ _ _ e
 .rw[YW q]at h;cases h
  have h2:=Y2 length (iz s);rw[ZE]at h2;exact(Ln [(wd s).length,(wr s).length,s.length] (.w (.a .x .y) .z) [Gf .z (.a .x .y)] rfl h2)
theorem vK {v:List Nat->Option (T×List Nat)} (hv:∀s d t,v s=some (d,t)->(tx d).length+t.length<=s.length):∀(f:Nat) (s:List Nat) (ds:List T) (t:List Nat),cJ v f s=some (ds,t)->bf (cS ds)+t.length<=s.length:=by
 intro f s ds t h
 induction f generalizing s ds t with
 |zero=>exact ah h
 |succ f ih=>
  unfold cJ at h
  by_cases q:s.take 1=[32]
  .rw[YV q]at h
   cases e:v (s.drop 1) with
   |none=>have h:=e▸h;exact ah h
   |some p=>
    rw[e]at h;obtain⟨⟨ke,t'⟩,e',h⟩:=Z9 h;cases h;show bf (tx p.1::cS ke)+_<=_
    rw[aD];exact(Ln [(tx p.1).length,bf (cS ke),t'.length,s.length,p.2.length,(drop (1:Nat) s).length] (.w (.a (.a (.p 1 .x) .y) .z) .u) [Gl (.a .x (.v 4)) (.v 5),Gl (.a .y .z) (.v 4),Gf .u (.p 1 (.v 5))] rfl (hv _ _ _ e) (ih _ _ _ e') (iY q))
  .rw[YW q]at h;cases h;show 0+_<=_;exact(L0 [s.length] (.a (.c 0) .x) .x rfl)
theorem vY (h:List Nat) (ps:List T):(tx (fH h ps)).length=h.length+bf (cS ps)+2:=by
 unfold fH
 by_cases q:h=[105,102]
 .refine Er (YV q) ?_;subst q;exact iO _ _
 refine Er (YW q) ?_
 by_cases q2:cP ⟨⟨h⟩⟩=true
 .exact Er (YV q2) (iO _ _)
 .exact Er (YW q2) (iO _ _)
theorem yZ:∀(r:Nat) (s:List Nat) (d:T) (t:List Nat),cW r s=some (d,t)->(tx d).length+t.length<=s.length:=by
 intro r s d t h
 induction r generalizing s d t with
 |zero=>exact ah h
 |succ r ih=>
  unfold cW at h
  by_cases q:s.take 1=[40]
  .rw[YV q]at h
   have h2:=Y2 length (iz (s.drop 1));have h2:=ZE▸h2
   by_cases q2:wd (s.drop 1)=fL
   .rw[YV q2]at h
    by_cases q3:(wr ((wr (s.drop 1)).drop 1)).take 1=[41]
    .rw[YV q3]at h;cases h
     have h4:=Y2 length (iz ((wr (s.drop 1)).drop 1));rw[ZE]at h4;rw[q2,show(fL:List Nat).length=6 from rfl]at h2;have h5:(wr (s.drop 1)).length=((wr (s.drop 1)).drop 1).length+1:=by
      cases e:wr (s.drop 1) with
      |nil=>have q3:=e▸q3;cases q3
      |cons b l=>rfl
     show(40::(au [32] [fL,wd ((wr (s.drop 1)).drop 1)]++[41])).length+_<=_
     rw[iO,aD];exact Er (show(fL:List Nat).length=6 from rfl) (Ln [(wd (drop (1:Nat) (wr (drop (1:Nat) s)))).length,(drop (1:Nat) (wr (drop (1:Nat) (wr (drop (1:Nat) s))))).length,s.length,(drop (1:Nat) s).length,(wr (drop (1:Nat) s)).length,(wr (drop (1:Nat) (wr (drop (1:Nat) s)))).length,(drop (1:Nat) (wr (drop (1:Nat) s))).length] (.w (.a (.p 2 (.a (.c 6) (.p 0 (.p 1 .x)))) .y) .z) [Gf .z (.p 1 .u),Gf .u (.a (.c 6) (.v 4)),Gf (.v 5) (.p 1 .y),Gf (.v 6) (.a .x (.v 5)),Gf (.v 4) (.p 1 (.v 6))] rfl (iY q) h2 (iY q3) h4 h5)
    .have h:=(YW q3)▸h;exact ah h
   .rw[YW q2]at h
    cases e:cJ (cW r) Sz (wr (s.drop 1)) with
    |none=>have h:=e▸h;exact ah h
    |some p=>
     have h:=e▸h;dsimp only at h
     by_cases q3:p.2.take 1=[41]
     .rw[YV q3]at h;cases h
      rw[vY];exact(Ln [(wd (drop (1:Nat) s)).length,bf (cS p.1),(drop (1:Nat) p.2).length,s.length,(drop (1:Nat) s).length,(wr (drop (1:Nat) s)).length,p.2.length] (.w (.a (.p 2 (.a .x .y)) .z) .u) [Gf .u (.p 1 (.v 4)),Gf (.v 4) (.a .x (.v 5)),Gf (.v 6) (.p 1 .z),Gl (.a .y (.v 6)) (.v 5)] rfl (iY q) h2 (iY q3) (vK ih _ _ _ _ e))
     .rw[YW q3]at h;exact ah h
  .rw[YW q]at h;exact plain_len h
theorem uv (hv:∀s d t,v s=some (d,t)->dep d<r+1):∀(f:Nat) (s:List Nat) (ds:List D) (t:List Nat),bT v f s=some (ds,t)->bK ds<r+1:=by
 intro f s ds t h
 induction f generalizing s ds t with
 |zero=>exact ah h
 |succ f ih=>
  unfold bT at h
  by_cases q:s.take 1=[93]
  .have h:=(YV q)▸h;cases h;exact Nat.succ_pos _
  have h:=(YW q)▸h;cases e:v s with
  |none=>have h:=e▸h;exact ah h
  |some p=>
   obtain⟨d,s1⟩:=p;have h:=e▸h;dsimp only at h;have key:∀u,(bT v f u).map (λp=>(d::p.1,p.2))=some (ds,t)->bK ds<r+1:=λu h=>by
    obtain⟨⟨ke,t'⟩,e',h⟩:=Z9 h;cases h;have:=ih _ _ _ e';exact(Y4 (Nat.le_total (dep d) (bK ke)) (λe5=>(Ln [max (dep d) (bK ke),r,bK ke] (.w (.p 1 .x) (.p 1 .y)) [Gl (.p 1 .z) (.p 1 .y),Ge .x .z] rfl this (Nat.max_eq_right (a:=dep d) (b:=bK ke) e5))) (λe5=>(Ln [max (dep d) (bK ke),r,dep d] (.w (.p 1 .x) (.p 1 .y)) [Gl (.p 1 .z) (.p 1 .y),Ge .x .z] rfl (hv _ _ _ e) (Nat.max_eq_left (a:=dep d) (b:=bK ke) e5))))
   by_cases q:s1.take 1=[32]
   .have h:=(YV q)▸h;exact key _ h
   have h:=(YW q)▸h
   by_cases q:s1.take 1=[93]
   .rw[YV q]at h;exact key _ h
   .rw[YW q]at h;exact ah h
theorem Ab:∀(r:Nat) (s:List Nat) (d:D) (t:List Nat),val r s=some (d,t)->dep d<r+1:=by
 intro r s d t h
 induction r generalizing s d t with
 |zero=>exact ah h
 |succ r ih=>
  unfold val at h
  by_cases q:s.take 1=[91]
  .rw[YV q]at h
   obtain⟨⟨ds,t'⟩,e',h⟩:=Z9 h;cases h;have:=uv ih _ _ _ _ e';exact(L1 [bK ds,r] (.p 1 (.p 1 .x)) (.p 1 (.p 1 .y)) (.p 1 .x) (.p 1 .y) rfl this)
  .rw[YW q]at h
   obtain⟨i,e',h⟩:=Z9 h;cases h;exact Nat.succ_pos _
theorem BJ:∀(r:Nat) (s:List Nat) (d:T) (t:List Nat),cW r s=some (d,t)->fG d<=50:=by
 intro r s d t h
 induction r generalizing s d t with
 |zero=>exact ah h
 |succ r IH=>
  have lp:∀(f:Nat) (s:List Nat) (ds:List T) (t:List Nat),cJ (cW r) f s=some (ds,t)->eh ds<=50:=by
   intro f
   induction f with
   |zero=>intro s ds t h;exact ah h
   |succ f ih=>
    intro s ds t h;unfold cJ at h
    by_cases q:s.take 1=[32]
    .rw[YV q]at h
     cases e:cW r (s.drop 1) with
     |none=>have h:=e▸h;exact ah h
     |some p=>
      rw[e]at h;obtain⟨⟨ke,t'⟩,e',h⟩:=Z9 h;cases h;exact Nat.max_le.mpr ⟨IH _ _ _ e,ih _ _ _ e'⟩
    .rw[YW q]at h;cases h;exact Y8 _
  unfold cW at h
  by_cases q:s.take 1=[40]
  .rw[YV q]at h
   by_cases q2:wd (s.drop 1)=fL
   .have h:=(YV q2)▸h
    by_cases q3:(wr ((wr (s.drop 1)).drop 1)).take 1=[41]
    .rw[YV q3]at h;cases h;exact Y8 _
    .have h:=(YW q3)▸h;exact ah h
   .have h:=(YW q2)▸h
    cases e:cJ (cW r) Sz (wr (s.drop 1)) with
    |none=>have h:=e▸h;exact ah h
    |some p=>
     rw[e]at h;dsimp only at h
     by_cases q3:p.2.take 1=[41]
     .have h:=(YV q3)▸h;cases h
      have:=lp _ _ _ _ e;unfold fH
      by_cases z:wd (s.drop 1)=[105,102]
      .exact Er (YV z) this
      refine Er (YW z) ?_
      by_cases z:cP ⟨⟨wd (s.drop 1)⟩⟩=true
      .exact Er (YV z) this
      .exact Er (YW z) this
     .rw[YW q3]at h;exact ah h
  .rw[YW q]at h
   unfold plain at h
   by_cases q:go s=true
   .rw[YV q]at h
    obtain⟨⟨d,u'⟩,e,h⟩:=Z9 h;cases h;exact Nat.le_of_lt_succ (Ab _ _ _ _ e)
   .have h:=(YW q)▸h;cases h;exact Y8 _
noncomputable def bq (row:List Nat):List Nat×List Nat:=match cz [32,61,32] row with
 |some p=>p
 |none=>(row,[])
theorem xf:∀(row a b:List Nat),cz [32,61,32] row=some (a,b)->row.length=a.length+3+b.length:=by
 intro r a b h
 induction r generalizing a b with
 |nil=>exact ah h
 |cons c r ih=>
  unfold cz at h
  by_cases q:List.isPrefixOf [32,61,32] (c::r)=true
  .have h:=(YV q)▸h;cases h
   have:=List.isPrefixOf_iff_prefix.mp q;have:=this.length_le;refine Er ZC ?_;have:3<=(c::r).length:=this;exact(Le [r.length,(c::r).length-(3:Nat)] (.e (.p 1 .x) (.a (.p 3 (.c 0)) .y)) [Gq (.p 3 .y) (.p 1 .x)] rfl (Za (n:=(c::r).length) (m:=3) this))
  .rw[YW q]at h
   obtain⟨⟨a',b'⟩,e,h⟩:=Z9 h;cases h;have:=ih _ _ e;refine Er ZD ?_;show _=(a'.length+1)+3+b'.length;exact(Le [r.length,a'.length,b'.length] (.e (.p 1 .x) (.a (.p 3 (.p 1 .y)) .z)) [Gp .x (.a (.p 3 .y) .z)] rfl this)
theorem jr (row:List Nat):(bq row).1.length+(bq row).2.length<=row.length:=by
 unfold bq;cases e:cz [32,61,32] row with
 |none=>show row.length+0<=_;exact(L0 [row.length] (.p 0 .x) .x rfl)
 |some p=>have:=xf _ _ _ e;show p.1.length+p.2.length<=_;exact(Ln [p.1.length,p.2.length,row.length] (.w (.a .x .y) .z) [Gf .z (.a (.p 3 .x) .y)] rfl this)
theorem eR (c:Nat):∀l:List Nat, ∃w ws,ak c l=w::ws:=by
 intro r
 induction r with
 |nil=>exact⟨[],[],rfl⟩
 |cons x r ih=>
  refine fW ih λw ws e=>?_
  unfold ak
  by_cases q:x=c
  .exact Er (YV q) (⟨_,_,rfl⟩)
  .exact Er (YW q) (Er e (⟨_,_,rfl⟩))
noncomputable def vq (row:List Nat):Option Fun:=match cW 20 (bq row).2 with
 |some (t,[])=>some (⟨⟨(ak 32 (bq row).1).headD []⟩⟩,(ak 32 (bq row).1).tail.map λx=>⟨⟨x⟩⟩,t)
 |_=>none
noncomputable def fR (o:Option Fun):Option (Except Str Rv×List Slot):=match o with
 |none=>HG []
 |some f=>some (.ok (.fz (cX f)),[])
theorem uE (d:D) (ds:List D):eS (.list (d::ds)) (.int 1) .none=some (.own (.list ds)):=by
 show some (Rv.own (.list (cB (d::ds) (b3 (ds.length+1) ((1:Nat):Int)) (ds.length+1))))=_
 rw[cG];refine Er (Zd (by exact(L0 [ds.length] (.c 1) (.p 1 .x) rfl))) ?_;unfold cB;refine Er List.drop_succ_cons ?_;refine Er ZI ?_;rw[Nat.add_sub_cancel,List.take_length]
theorem IR (n:Nat) (row:List Nat) (hz:row.length+2<=Sz):cF P (n+75) false 19 [.fz (sT row)]=fR (vq row):=by
 obtain⟨m,h1⟩:∃m,dD .part [sT row,S [32,61,32]]=some (.fz (.tuple [sT (bq row).1,m,sT (bq row).2])):=by
  have e:dD .part [sT row,S [32,61,32]]=(if (3:Nat)=0 then none else match cz [32,61,32] row with
   |some (a,b)=>some (Rv.fz (.tuple [sT a,S [32,61,32],sT b]))
   |none=>some (.fz (.tuple [sT row,sT [],sT []]))):=rfl
  refine Er e (Er (YW (by decide)) ?_);unfold bq;cases cz [32,61,32] row with
  |none=>exact⟨_,rfl⟩
  |some p=>exact⟨_,rfl⟩
 have h2:dD .split [sT (bq row).1,S [32]]=some (.own (.list ((ak 32 (bq row).1).map sT))):=by
  show(if (bq row).1.length+2<=Sz/\32<128 then some (Rv.own (.list ((ak 32 (bq row).1).map sT))) else none)=_
  exact Er (YV ⟨by exact(Ln [(bq row).fst.length,row.length,(bq row).snd.length] (.w (.p 2 .x) (.c 16777216)) [Gl (.p 2 .y) (.c 16777216),Gl (.a .x .z) .y] rfl hz (jr row)),by decide⟩) rfl
 have h3:=IY n 20 (bq row).2 [] (bq row).2 0 20 rfl rfl rfl (Ln [(bq row).snd.length,row.length,(bq row).fst.length] (.w (.p 1 .x) (.c 16777216)) [Gl (.p 2 .y) (.c 16777216),Gl (.a .z .x) .y] rfl hz (jr row));have h4:dD .len [sT (bq row).2]=some (.fz (.int (bq row).2.length)):=rfl;unfold vq;generalize hx:(bq row).1=x at *;generalize hb:(bq row).2=b at *;refine fW (eR 32 x) λw ws ew=>?_
 cases e:cW 20 b with
 |none=>
  rw[e]at h3;show _=some (Except.error aB,[])
  exact aJ [.v 0 h1,.v 0 h2,.c 0 h3] rfl
 |some p=>
  obtain⟨t,u⟩:=p;have h5:ag .ne (.int ((b.length:Int)-u.length)) (.int b.length)=some (!decide (u.length=0)):=by
   rw[sK,ze];exact Y2 (λx=>some (!x)) (decide_eq_decide.mpr (⟨λxP=>(Le [u.length,b.length] (.e .x (.c 0)) [Gs (.s (.n .y) (.n .x)) (.n .y)] rfl xP),λxP=>(Le [b.length,u.length] (.j (.s (.n .x) (.n .y)) (.n .x)) [Gq .y (.c 0)] rfl xP)⟩))
  cases u with
  |cons c u=>
   rw[Y1 (by intro z;cases z)]at h5;show _=some (Except.error aB,[])
   exact aJ [.v 0 h1,.v 0 h2,.c 0 ((e▸h3)),.v 0 h4,.b 0 h5] rfl
  |nil=>
   rw[ew]at h2 ⊢;have h2:=Zt▸h2;have em:ws.map sT=(ws.map λx=>(⟨⟨x⟩⟩:Str)).map str:=by refine Er Zs ?_;rfl
   show _=some (Except.ok (Rv.fz (.tuple [sT w,.tuple ((ws.map λx=>(⟨⟨x⟩⟩:Str)).map str),cM t])),[])
   exact Er em.symm (aJ [.v 0 h1,.v 0 h2,.c 0 ((e▸h3)),.v 0 h4,.b 0 h5,.v 2 ((uE (sT w) (ws.map sT)))] rfl)
noncomputable def fy:List (List Nat)->Option (List Fun)
 |[]=>some []
 |r::rs=>match vq r with
  |none=>none
  |some f=>(fy rs).map (f :: ·)
inductive Mk (n:Nat) (a0 a1 a2 s3:Slot) (rows:List (List Nat)):Option (List Fun)->Prop
 |bad (s:Slot):aZ ⟨P.glob,cF P n,[],false⟩ [a0,a1,a2,s3] (.call 19 [aa 3]) (.one 3) [] (rows.map sT)=some (.error aB,[a0,a1,a2,s])->Mk n a0 a1 a2 s3 rows none
 |good (fs:List Fun):aZ ⟨P.glob,cF P n,[],false⟩ [a0,a1,a2,s3] (.call 19 [aa 3]) (.one 3) [] (rows.map sT)=some (.ok (fs.map cX),[a0,a1,a2,.no])->Mk n a0 a1 a2 s3 rows (some fs)
theorem EV (n:Nat) (a0 a1 a2:Slot):∀(rows:List (List Nat)) (s3:Slot),(∀r∈rows,r.length+2<=Sz)->Mk (n+75) a0 a1 a2 s3 rows (fy rows):=by
 intro rows
 induction rows with
 |nil=>exact @λs3 ac=>.good [] (by rw[Zr,Zr,bc];rfl)
 |cons r rows IH=>
  intro s3 h;have h1:=IR n r (h r Zn);have ih:=IH (.fz (sT r)) (hG h)
  unfold fy;cases e:vq r with
  |none=>
   exact .bad (.fz (sT r)) (by refine Er Zt ?_;exact mq [.c 0 ((e▸h1))] rfl)
  |some f=>
   rw[e]at h1;generalize fy rows=o at ih;cases ih with
   |bad fr ih=>exact .bad fr (by refine Er Zt ?_;exact mq [.c 0 h1,.cp 0 ih] rfl)
   |good fs ih=>exact .good (f::fs) (by refine Er Zt (Er Zt ?_);exact mq [.c 0 h1,.cp 0 ih] rfl)
theorem gX (c:Nat):∀l:List Nat,bf (ak c l)=l.length+1:=by
 intro r
 induction r with
 |nil=>exact rfl
 |cons x r IH=>
  have ih:=IH;refine fW (eR c r) λw ws e=>?_
  unfold ak
  by_cases q:x=c
  .refine Er (YV q) ?_;rw[aD];refine Er ih ?_;refine Er ZD ?_;show 0+1+_=_;exact(Le [r.length] (.e (.a (.p 1 (.c 0)) (.p 1 .x)) (.p 1 (.p 1 .x))) [] rfl)
  .refine Er (YW q) (Er e ?_)
   rw[e,aD]at ih;rw[aD];exact Er ZD (Er ZD (Le [w.length,bf ws,r.length] (.e (.a (.p 1 (.p 1 .x)) .y) (.p 1 (.p 1 .z))) [Gp (.a (.p 1 .x) .y) (.p 1 .z)] rfl ih))
structure v8 (k:Nat) (f:Fun):Prop where
 dp:fG f.2.2<=50
 tl:(aO f).length<=k+3
theorem yQ {row:List Nat} {f:Fun} (h:vq row=some f):v8 row.length f:=by
 unfold vq at h;refine fW (eR 32 (bq row).1) λw ws ew=>?_
 have st:=gX 32 (bq row).1;rw[ew]at h st;rw[aD]at st;cases e:cW 20 (bq row).2 with
 |none=>have h:=e▸h;exact ah h
 |some p=>
  obtain⟨t,u⟩:=p;rw[e]at h;cases u with
  |cons=>exact ah h
  |nil=>
   have h1:=yZ _ _ _ _ e;obtain rfl:=aF h;refine⟨(BJ _ _ _ _ e),?_⟩;have em:(ws.map λx=>(⟨⟨x⟩⟩:Str)).map fE=ws:=by
    exact Er Zs (map_id' _)
   rw[iW];dsimp only;refine Er (show(w::ws).tail=ws from rfl) (Er em ?_);rw[show([]:List Nat).length=0 from rfl]at h1;exact(Ln [w.length,bf ws,(tx t).length,row.length,(bq row).fst.length,(bq row).snd.length] (.w (.p 3 (.a (.a .x .y) .z)) (.p 3 .u)) [Gl (.a (.v 4) (.v 5)) .u,Ge (.a (.p 1 .x) .y) (.p 1 (.v 4)),Gl (.p 0 .z) (.v 5)] rfl (jr row) st h1)
structure Mi (k:Nat) (m:Nat) (fs:List Fun):Prop where
 len:fs.length=m
 tl:(ar fs).length<=k+3*m
 ok:∀f∈fs,v8 k f
theorem v8.mono {f:Fun} (h:v8 j f) (q:j<=k):v8 k f:=⟨h.dp,by have:=h.tl;exact(Ln [(aO f).length,k,j] (.w .x (.p 3 .y)) [Gl .z .y,Gl .x (.p 3 .z)] rfl q this)⟩
theorem tV:∀ {rows:List (List Nat)} {fs:List Fun},fy rows=some fs->Mi (bf rows) rows.length fs:=by
 intro rows fs h
 induction rows generalizing fs with
 |nil=>obtain rfl:=aF h;exact⟨rfl,Zg _,λf hf=>by cases hf⟩
 |cons r rows ih=>
  unfold fy at h;cases e:vq r with
  |none=>have h:=e▸h;exact ah h
  |some f=>
   rw[e]at h;obtain⟨gs,e',h⟩:=Z9 (show(fy rows).map (f :: ·)=some fs from h);subst h;have h1:=(yQ e).tl;have h2:=(ih e').tl;rw[aD];refine⟨by exact Er ZD (Er ZD (Er (ih e').len rfl)),?_,λg hg=>?_⟩
   .unfold ar at h2 ⊢
    exact Er Zt (Er flatten_cons (Er ZE (Er ZE (Er Zx (Er ZD (Ln [(aO f).length,(List.map (λ(f:Fun)=>aO f++[10]) gs).flatten.length,r.length,bf rows,rows.length] (.w (.a (.p 1 .x) .y) (.a (.a (.p 1 .z) .u) (.m 3 (.p 1 (.v 4))))) [Gl .x (.p 3 .z),Gl .y (.a .u (.m 3 (.v 4)))] rfl h1 h2))))))
   .rcases mem_cons.mp hg with rfl|hg
    .exact(yQ e).mono (L0 [r.length,bf rows] .x (.a (.p 1 .x) .y) rfl)
    .exact((ih e').ok g hg).mono (L0 [bf rows,r.length] .x (.a (.p 1 .y) .x) rfl)
theorem zx {fs:List Fun} {g:Str} (h:cnt (fs.map ct) g=some k):∃f∈fs,f.1=g/\k=f.2.1.length:=by
 unfold cnt at h;obtain⟨p,hp,rfl⟩:=Z9 h;obtain⟨f,hf,rfl⟩:=mem_map.mp (List.mem_of_find?_eq_some hp);exact⟨f,hf,YU (List.find?_some (p:=λ(q:Str×Nat)=>decide (q.1=g)) hp),rfl⟩
structure zZ (fs:List Fun):Prop where
 ne:fs≠ []
 nms:bM (fs.map (·.1))=true
 ok:∀f∈fs,rI f=true
 bd:∀f∈fs,dJ f.2.1 (fs.map ct) 20 f.2.2=true
theorem dP {fs:List Fun} (h:dK fs=true):zZ fs:=by
 unfold dK at h;rw[Z7,Z7,Z7]at h;obtain⟨h1,h⟩:=h;exact⟨λe=>(by have h1:=e▸h1;cases h1),h.1,all_eq_true.mp h.2.1,all_eq_true.mp h.2.2⟩
theorem g9 (h:bM l=true):(∀x∈l,aH x=true)/\l.Nodup:=by
 unfold bM at h;rw[Z7]at h;exact⟨all_eq_true.mp h.1,iM (YU h.2)⟩
theorem j2 {f:Fun} (h:rI f=true):f.2.1.length<=6/\ ∀x∈f.2.1,aH x=true:=by
 unfold rI at h;rw[Z7]at h;exact⟨YU h.1,(g9 h.2).1⟩
theorem CN {fs:List Fun} (h:zZ fs) (ho:∀f∈fs,v8 k f) (hk:k+3<=16500000):∀f∈fs,Fk (fs.map ct) f:=λf hf=>by
 have N:=(g9 h.nms).1;refine⟨N _ (List.mem_map_of_mem hf),(j2 (h.ok f hf)).1,(j2 (h.ok f hf)).2,λg k e=>?_,h.bd f hf,(ho f hf).dp,Zf (ho f hf).tl hk⟩;obtain⟨f',CJ,rfl,rfl⟩:=zx e;exact⟨N _ (List.mem_map_of_mem CJ),(j2 (h.ok f' CJ)).1⟩
noncomputable def rd (t:List Nat):Option (List Fun):=if (ak 10 t).length<2\/ ¬(ak 10 t).getLast? = some [] then none else match fy (ak 10 t).dropLast with
 |none=>none
 |some fs=>if dK fs=true/\ar fs=t then some fs else none
noncomputable def rR (o:Option (List Fun)):Option (Except Str Rv×List Slot):=match o with
 |none=>HG []
 |some fs=>some (.ok (.fz (dy fs)),[])
structure Tok (t:List Nat):Prop where
 len:t.length<=16400000
 rows:(ak 10 t).length<=900
theorem Ag {l:List (List Nat)} {x:List Nat} (h:x∈l):x.length+1<=bf l:=by
 induction l with
 |nil=>cases h
 |cons y l ih=>
  rw[aD]
  rcases mem_cons.mp h with rfl|h
  .exact(L0 [x.length,bf l] (.p 1 .x) (.a (.p 1 .x) .y) rfl)
  .have:=ih h;exact(L1 [x.length,y.length,bf l] (.p 1 .x) (.a (.p 1 .y) .z) (.p 1 .x) .z rfl this)
theorem pi (n:Nat) (t:List Nat) (hT:Tok t):cF P (n+76) false 20 [.fz (sT t)]=rR (rd t):=by
 have bH:=hT.len;have rZ:=hT.rows;have h1:dD .split [sT t,S [10]]=some (.own (.list ((ak 10 t).map sT))):=by
  show(if t.length+2<=Sz/\10<128 then some (Rv.own (.list ((ak 10 t).map sT))) else none)=_
  exact Er (YV ⟨by show _<=16777216;exact(L1 [t.length] (.p 2 .x) (.c 16777216) .x (.c 16400000) rfl bH),by decide⟩) rfl
 have st:=gX 10 t;unfold rd;generalize ak 10 t=rows at *;obtain⟨X,l,rfl⟩:∃X l,rows=X++[l]:=by
  cases h:rows.getLast? with
  |none=>have st:=(List.getLast?_eq_none_iff.mp h)▸st;cases st
  |some l=>obtain⟨X,hX⟩:=List.getLast?_eq_some_iff.mp h;exact⟨X,l,hX⟩
 rw[cc,aD]at st;refine Er (getLast?_concat) (Er dropLast_concat ?_);rw[Zu,Zt,Zr]at h1;rw[ZE,Zx]at rZ ⊢;have h2:dD .len [.list (X.map sT++[sT l])]=some (.fz (.int ((X.map sT++[sT l]).length:Nat))):=rfl;have hL:(X.map sT++[sT l]).length=X.length+1:=by refine Er ZE ?_;rw[ZB];rfl
 have h3:ag .lt (.int ((X.map sT++[sT l]).length:Nat)) (.int 2)=some (decide (X.length+1<2)):=by
  exact Er hL ((bz _ _).trans (Y2 some (decide_eq_decide.mpr (⟨λe6=>(Ln [X.length] (.w (.p 1 (.p 1 .x)) (.c 2)) [Gi (.p 1 (.n (.p 1 .x))) (.c 2)] rfl e6),λe6=>(Ln [X.length] (.i (.p 1 (.n (.p 1 .x))) (.c 2)) [Gl (.p 1 (.p 1 .x)) (.c 2)] rfl e6)⟩))))
 have h4:fU (.list (X.map sT++[sT l])) (.int (-1))=some (sT l):=by
  show aW (X.map sT++[sT l]) (-1)=_
  unfold aW;refine Er (YW (by decide)) (Er hL (Er (YV (by exact(Ln [X.length] (.i (.c 0) (.a (.g (.c 1)) (.n (.p 1 .x)))) [] rfl))) ?_));refine Er (show((-1:Int)+((X.length+1:Nat):Int)).toNat=(X.map sT).length by rw[ZB];exact(Le [((-1:Int)+(↑(X.length+(1:Nat)):Int)).toNat,X.length] (.e .x .y) [Gr (.n .x) (.a (.g (.c 1)) (.n (.p 1 .y)))] rfl (ZQ (a:=(-1:Int)+(↑(X.length+(1:Nat)):Int)) (Ln [X.length] (.i (.c 0) (.a (.g (.c 1)) (.n (.p 1 .x)))) [] rfl)))) ?_;refine Er (List.getElem?_append_right (Zg _)) ?_;rw[Nat.sub_self];rfl
 have h5:=gR l [];have h6:eS (.list (X.map sT++[sT l])) .none (.int (-1))=some (.own (.list (X.map sT))):=by
  show some (Rv.own (.list (cB (X.map sT++[sT l]) 0 (b3 (X.map sT++[sT l]).length (-1)))))=_
  have:b3 (X.map sT++[sT l]).length (-1)=(X.map sT).length:=by
   exact Er ZE (clipAt_neg _ 1 (Zg _))
  refine Er this ?_;unfold cB;refine Er ZI ?_;rw[Y9];exact Er take_left rfl
 by_cases q1:X.length+1<2
 .refine Er (YV (.inl q1)) ?_
  have h3:=(Y0 q1)▸h3;exact aJ [.v 0 h1,.v 0 h2,.b 0 h3] rfl
 rw[Y1 q1]at h3
 by_cases q2:l=[]
 rotate_left
 .refine Er (YV (.inr λz=>q2 (Y5 z))) ?_
  rw[Y1 q2]at h5;exact aJ [.v 0 h1,.v 0 h2,.b 0 h3,.d 1 h4,.b 0 h5] rfl
 subst q2;refine Er (YW (not_or.mpr ⟨q1,not_not_intro rfl⟩)) ?_;rw[Y0 rfl]at h5;have lp:=EV n (.fz (sT t)) (.fz (.list (X.map sT++[sT []]))) .no X .no λr hr=>by
  have:=Ag hr;show _<=16777216;exact(Ln [r.length,t.length,bf X,bf []] (.w (.p 2 .x) (.c 16777216)) [Gl .y (.c 16400000),Ge (.a .z (.a (.p 1 (.c 0)) .u)) (.p 1 .y),Gl (.p 1 .x) .z] rfl bH st this)
 generalize hf:fy X=o at lp;cases lp with
 |bad fr lp=>
  show _=some (Except.error aB,[])
  exact aJ [.v 0 h1,.v 0 h2,.b 0 h3,.d 1 h4,.v 2 h6,.cp 1 lp] rfl
 |good fs lp=>
  have F:=tV hf;have Os:=F.tl;have Nb:=F.len;have hg:=kZ (n+51) fs (λf hf=>by have:=(F.ok f hf).dp;exact(L1 [fG f.snd.snd,n] (.p 1 .x) (.p 51 .y) .x (.c 50) rfl this)) (Ln [fs.length,X.length] (.w .x (.c 1000)) [Gl (.p 1 .y) (.c 900),Ge .x .y] rfl rZ Nb);dsimp only;cases q:dK fs with
  |false=>
   rw[q]at hg;exact Er (YW (λz=>by cases z.1)) (aJ [.v 0 h1,.v 0 h2,.b 0 h3,.d 1 h4,.v 2 h6,.cp 1 lp,.c 1 hg] rfl)
  |true=>
   rw[q]at hg;have hw:=o0 (n+2) (CN (dP q) F.ok (Ln [bf X,t.length,bf []] (.w (.p 3 .x) (.c 16500000)) [Gl .y (.c 16400000),Ge (.a .x (.a (.p 1 (.c 0)) .z)) (.p 1 .y)] rfl bH st)) (Ln [fs.length,X.length] (.w .x (.c 1000)) [Gl (.p 1 .y) (.c 900),Ge .x .y] rfl rZ Nb) (Ln [(ar fs).length,t.length,X.length,bf X,bf []] (.w .x (.c 16777216)) [Gl .y (.c 16400000),(3,.w (.p 1 .z) (.c 900)),Ge (.a .u (.a (.p 1 (.c 0)) (.v 4))) (.p 1 .y),Gl .x (.a .u (.m 3 .z))] rfl bH rZ st Os);have he:=gR (ar fs) t
   by_cases q3:ar fs=t
   .refine Er (YV ⟨rfl,q3⟩) ?_
    rw[Y0 q3]at he;exact aJ [.v 0 h1,.v 0 h2,.b 0 h3,.d 1 h4,.v 2 h6,.cp 1 lp,.c 1 hg,.c 2 hw,.b 0 he] rfl
   .refine Er (YW λz=>q3 z.2) ?_
    rw[Y1 q3]at he;exact aJ [.v 0 h1,.v 0 h2,.b 0 h3,.d 1 h4,.v 2 h6,.cp 1 lp,.c 1 hg,.c 2 hw,.b 0 he] rfl
def IF (c:Nat):Prop:=c=91\/c=45\/(48<=c/\c<=57)
theorem ng:∀ {d:D},good d=true-> ∃c l,kq d=c::l/\IF c
 |.int i,h=>by
  have I:=gW (cE h);show ∃c l,cK i=c::l/\IF c
  match e:cK i with
  |[]=>exact absurd e I.ne
  |c::l=>exact⟨c,l,rfl,.inr (I.sg c (by refine Er e ?_;exact Zn))⟩
 |.tuple ds,h=>⟨91,_,rfl,.inl rfl⟩
 |.none,h|.bool _,h|.str _,h|.list _,h|.dict _,h=>by cases h
theorem yn (h:i.natAbs<10 ^ 18):∀c∈cK i,dl c=false:=λc hc=>by
 rcases(gW h).sg c hc with rfl|h
 .decide
 .exact(sd h).2
theorem GC:∀ds:List D,ds.length<=eN ds:=by
 intro ds
 induction ds with
 |nil=>exact Zg _
 |cons d ds ih=>
  exact(Ln [ds.length,wt d,eN ds] (.w (.p 1 .x) (.a .y .z)) [Gl .x .z,Gl (.c 1) .y] rfl ih (we d))
theorem Au:∀ {c:Nat},gz c=true->dl c=false:=by
 have h:(bl++figuresN).all (λd=>!dl d)=true:=by kernel_rfl
 intro c hc;unfold gz at hc;have hm:c∈bl++figuresN:=by
  rw[Z4,contains_iff_mem,contains_iff_mem]at hc;exact mem_append.mpr hc
 have:=all_eq_true.mp h c hm;cases q:dl c with
 |false=>rfl
 |true=>have this:=q▸this;cases this
structure FT (x:List Nat):Prop where
 nd:∀c∈x,dl c=false
 op:cP ⟨⟨x⟩⟩=false
 ni:¬((⟨⟨x⟩⟩:Str)=fc)
 nr:¬((⟨⟨x⟩⟩:Str)=aK)
 hd:∃c l,x=c::l/\bl.contains c=true
theorem j5 {x:List Nat} (h:aH ⟨⟨x⟩⟩=true):FT x:=by
 unfold aH at h;simp only[Z7,YZ,Z5,decide_eq_false_iff_not]at h;obtain⟨h1,h2,h3,h4,h5,h6,h7⟩:=h;refine⟨λc hc=>Au (all_eq_true.mp h7 c hc),h4,h5,h6,?_⟩;clear h1 h2 h4 h5 h6 h7
 match x,h3 with
 |c::l,h3=>exact⟨c,l,rfl,h3⟩
 |[],h3=>cases h3
theorem Ep (h:bl.contains c=true):c≠91/\c≠45/\c≠40/\figuresN.contains c=false:=by
 have a:bl.all (λd=>!decide (d=91)&&(!decide (d=45)&&(!decide (d=40) && !figuresN.contains d)))=true:=by kernel_rfl
 have:=all_eq_true.mp a c (contains_iff_mem.mp h);simp only[Z7,Z5,decide_eq_false_iff_not]at this;exact this
noncomputable def jQ (l:List (List Nat)):List Nat:=(l.map λx=>32::x).flatten
theorem dX (h:List Nat):∀l:List (List Nat),au [32] (h::l)=h++jQ l
 |[]=>by show h=h++[];rw[ZL]
 |x::l=>by
  show h++[32]++au [32] (x::l)=_
  refine Er (dX x l) ?_;unfold jQ;refine Er Zt (Er flatten_cons ?_);simp
theorem iV (l:List (List Nat)) (rest:List Nat):fJ (jQ l++41::rest):=by
 cases l with
 |nil=>exact .of rfl
 |cons x l=>exact .of (c:=32) rfl
theorem D7:(pv.all λx=>(fE x).all (λc=>!dl c) && !decide (fE x=fL))=true:=by kernel_rfl
theorem Hm {x:List Nat} (h:cP ⟨⟨x⟩⟩=true):(∀c∈x,dl c=false)/\ ¬x=fL:=by
 have:=all_eq_true.mp D7 _ (k7 h);simp only[Z7,ZN,Z5,decide_eq_false_iff_not]at this;exact this
theorem wi:(eQ.all λx=>(fE x).all (λc=>!dl c))=true:=by kernel_rfl
theorem sX {x:List Nat} (h:(⟨⟨x⟩⟩:Str)∈eQ):∀c∈x,dl c=false:=by
 have:=all_eq_true.mp wi _ h;simp only[ZN,Z5]at this;exact this
theorem uy (h:br op k=true):k<=8:=by
 unfold br at h
 split at h
 .have:=YU h;exact(Ln [k] (.w .x (.c 8)) [Gi (.n .x) (.c 8)] rfl this)
 .have h:=eq_of_beq h
  split at h<;>(first|exact(Ln [k] (.w .x (.c 8)) [Gj (.n .x) (.c 2)] rfl h)|exact(Ln [k] (.w .x (.c 8)) [Gj (.n .x) (.c 1)] rfl h))
theorem nG (c:Nat) (l:List Nat):∀w:List Nat,c∉w->ak c (w++c::l)=w::ak c l:=by
 intro w
 induction w with
 |nil=>exact @λac=>YV rfl
 |cons x w ih=>
  intro h;show(if x=c then []::ak c (w++c::l) else match ak c (w++c::l) with|[]=>[[x]]|p::ps=>(x::p)::ps)=_
  exact Er (YW λe=>h (by refine Er e ?_;exact Zn)) (Er (ih λm=>h (Zo _ m)) rfl)
theorem Ar (c:Nat):∀w:List Nat,c∉w->ak c w=[w]:=by
 intro w
 induction w with
 |nil=>exact @λac=>rfl
 |cons x w ih=>
  intro h;show(if x=c then []::ak c w else match ak c w with|[]=>[[x]]|p::ps=>(x::p)::ps)=_
  exact Er (YW λe=>h (by refine Er e ?_;exact Zn)) (Er (ih λm=>h (Zo _ m)) rfl)
theorem rm (c:Nat):∀(w:List Nat) (ws:List (List Nat)),(∀x∈w::ws,c∉x)->ak c (au [c] (w::ws))=w::ws:=by
 intro w ws
 induction ws generalizing w with
 |nil=>exact @λh=>Ar c w (h w Zn)
 |cons x ws ih=>
  intro h;show ak c (w++[c]++au [c] (x::ws))=_
  rw[ZM];exact Er (nG c _ w (h w Zn)) (Er (ih x (hG h)) rfl)
theorem kt:∀(ls:List (List Nat)),(∀x∈ls,10∉x)->ak 10 (ls.map λx=>x++[10]).flatten=ls++[[]]:=by
 intro ls
 induction ls with
 |nil=>exact @λac=>rfl
 |cons x ls ih=>
  intro h;refine Er Zt ?_;refine Er flatten_cons ?_;rw[ZM];refine Er (nG 10 _ x (h x Zn)) (Er (ih (hG h)) ?_);rfl
theorem po (b:List Nat):∀h:List Nat,61∉h->cz [32,61,32] (h++32::61::32::b)=some (h,b):=by
 intro h
 induction h with
 |nil=>exact @λac=>rfl
 |cons x h ih=>
  intro hn;have np:([32,61,32]:List Nat).isPrefixOf (x::(h++32::61::32::b))=false:=by
   cases h with
   |nil=>show(32==x&&false)=false;rw[Bool.and_false]
   |cons y h=>
    have:(61==y)=false:=by
     have:y≠61:=λe=>hn (by refine Er e ?_;exact Zo _ Zn)
     simpa using λz:61=y=>this z.symm
    show(32==x&&(61==y&&_))=false
    refine Er this ?_;rw[Bool.false_and,Bool.and_false]
  show(if ([32,61,32]:List Nat).isPrefixOf (x::(h++32::61::32::b))=true then _ else(cz [32,61,32] (h++32::61::32::b)).map λp=>(x::p.1,p.2))=_
  refine Er np (Er (YW Z6) (Er (ih λm=>hn (Zo _ m)) ?_));rfl
theorem mem_join:∀ {l:List (List Nat)},c∈au [32] l->c=32\/ ∃x∈l,c∈x:=by
 intro x1
 induction x1 with
 |nil=>exact @λh=>by cases h
 |cons x x2 ih=>
  cases x2 with
  |nil=>exact @λh=>.inr ⟨x,Zn,h⟩
  |cons y r=>
    intro h;have h:=h
    rcases mem_append.mp h with h|h
    .rcases mem_append.mp h with h|h
     .exact .inr ⟨x,Zn,h⟩
     .exact .inl (List.mem_singleton.mp h)
    .rcases ih h with h|⟨z,hz,h⟩
     .exact .inl h
     .exact .inr ⟨z,Zo _ hz,h⟩
abbrev Sp (c:Nat):Prop:=c=10\/c=61\/128<=c
noncomputable abbrev D3 (c:Nat):Bool:=decide (c<128)&&(c != 10&&c != 61)
theorem Sp.not (h:Sp c):D3 c=false:=by
 rcases h with rfl|rfl|h
 .rfl
 .rfl
 .unfold D3;refine Er (Y1 (Nat.not_lt.mpr h)) ?_;rfl
theorem Sp.ne (h:Sp c) (l:List Nat) (hl:l.all D3=true):c∉l:=λm=>by
 have:=all_eq_true.mp hl c m;have this:=h.not▸this;cases this
theorem qN (hc:Sp c) {l:List (List Nat)} (a b:Nat) (By: [a,b,32].all D3=true) (h:∀x∈l,c∉x):c∉a::(au [32] l++[b]):=by
 intro m
 rcases mem_cons.mp m with m|m
 .exact(hc.ne _ By) (m▸Zn)
 .rcases mem_append.mp m with m|m
  .rcases mem_join m with m|⟨x,hx,m⟩
   .exact(hc.ne _ By) (m▸Zo _ (Zo _ Zn))
   .exact h x hx m
  .exact(hc.ne _ By) ((List.mem_singleton.mp m)▸Zo _ Zn)
theorem tq (h:aH x=true):10∉fE x/\32∉fE x/\61∉fE x:=by
 unfold aH at h;simp only[Z7]at h;exact⟨λm=>absurd (all_eq_true.mp h.2.2.2.2.2.2 _ m) (by decide),λm=>absurd (all_eq_true.mp h.2.2.2.2.2.2 _ m) (by decide),λm=>absurd (all_eq_true.mp h.2.2.2.2.2.2 _ m) (by decide)⟩
theorem As:∀ {c:Nat},gz c=true->D3 c=true:=by
 have:((bl++figuresN).all D3)=true:=by decide
 intro c h;unfold gz at h;rw[Z4,contains_iff_mem,contains_iff_mem]at h;exact all_eq_true.mp this c (mem_append.mpr h)
theorem j0 (hc:Sp c) (h:aH x=true):c∉fE x:=by
 unfold aH at h;simp only[Z7]at h;exact hc.ne _ (all_eq_true.mpr λd m=>As (all_eq_true.mp h.2.2.2.2.2.2 d m))
theorem D8:((pv++eQ).all λx=>(fE x).all D3)=true:=by kernel_rfl
theorem Ct (hc:Sp c) (h:x∈pv++eQ):c∉fE x:=hc.ne _ (all_eq_true.mp D8 x h)
mutual
theorem wk {c:Nat} (hc:Sp c):∀d:D,good d=true->c∉kq d
 |.int i,h=>λm=>by
  have:=(gW (cE h)).sg c m
  rcases hc with rfl|rfl|hc<;>omega
 |.tuple ds,h=>qN hc 91 93 (by decide) (sY hc ds h)
 |.none,h|.bool _,h|.str _,h|.list _,h|.dict _,h=>by cases h
theorem sY {c:Nat} (hc:Sp c):∀ds:List D,cI ds=true-> ∀x∈cD ds,c∉x
 |[]=>@λac x hx=>by cases hx
 |d::ds=>@λh x hx=>by
  have h:(good d&&cI ds)=true:=h;rw[Z7]at h
  rcases mem_cons.mp hx with rfl|hx
  .exact wk hc d h.1
  .exact sY hc ds h.2 x hx
end
theorem ja {x:List Nat} {l:List (List Nat)} (hx:c∉x) (hl:∀z∈l,c∉z):∀z∈x::l,c∉z:=λz hz=>by
 rcases mem_cons.mp hz with rfl|hz
 .exact hx
 .exact hl z hz
mutual
theorem oP {c:Nat} (hc:Sp c) {ns:List Str} {cs:List (Str×Nat)} (hn:Nm ns cs):∀(t:T) (r:Nat),dJ ns cs r t=true->c∉tx t
 |t,0=>@λh=>by cases t<;>cases h
 |.val d,r+1=>@λh=>wk hc d (j7 h)
 |.nam x,r+1=>@λh=>j0 hc (hn.ns x (bk.mp h))
 |.ref x,r+1=>@λh=>qN hc 40 41 (by decide) (ja (hc.ne _ (by decide)) (ja (Ct hc (mem_append.mpr (.inr (bk.mp h)))) λac h=>by cases h))
 |.iff ps,r+1=>@λh=>by
  have h:(decide (ps.length=3)&&ps.all (dJ ns cs r))=true:=h;rw[Z7,ZN]at h;exact qN hc 40 41 (by decide) (ja (hc.ne _ (by decide)) (nu hc hn ps r h.2))
 |.doo op ps,r+1=>@λh=>by
  have h:(cP op&&(br op ps.length&&ps.all (dJ ns cs r)))=true:=h;rw[Z7,Z7,ZN]at h;exact qN hc 40 41 (by decide) (ja (Ct hc (mem_append.mpr (.inl (k7 h.1)))) (nu hc hn ps r h.2.2))
 |.call f ps,r+1=>@λh=>by
  have h:(decide (cnt cs f=some ps.length)&&ps.all (dJ ns cs r))=true:=h;rw[Z7,ZN,YZ]at h;exact qN hc 40 41 (by decide) (ja (j0 hc (hn.cs f _ h.1)) (nu hc hn ps r h.2))
 |.odd _,r+1=>@λh=>by cases h
theorem nu {c:Nat} (hc:Sp c) {ns:List Str} {cs:List (Str×Nat)} (hn:Nm ns cs):∀(ts:List T) (r:Nat),(∀t∈ts,dJ ns cs r t=true)-> ∀x∈cS ts,c∉x
 |[]=>@λr h x hx=>by cases hx
 |t::ts=>@λr h x hx=>by
  rcases mem_cons.mp hx with rfl|hx
  .exact oP hc hn t r (h t Zn)
  .exact nu hc hn ts r (hG h) x hx
end
theorem qe {f:Fun} (h:Fk cs f):∀x∈qf f,10∉x/\32∉x/\61∉x:=λx hx=>by
 rcases mem_cons.mp hx with rfl|hx
 .exact tq h.nm
 .obtain⟨y,hy,rfl⟩:=mem_map.mp hx
  exact tq (h.ps y hy)
theorem kF {f:Fun} (h:Fk cs f):10∉aO f:=λm=>by
 rcases mem_join m with m|⟨x,hx,m⟩
 .cases m
 .rcases mem_append.mp hx with hx|hx
  .exact(qe h x hx).1 m
  .rcases mem_cons.mp hx with rfl|hx
   .revert m;decide
   .rw[List.mem_singleton.mp hx]at m
    exact oP (.inl rfl) h.ns _ _ h.ok m
theorem eO (f:Fun):aO f=au [32] (qf f)++32::61::32::tx f.2.2:=by
 unfold aO uJ;show au [32] (fE f.1::(f.2.1.map fE++[[61],tx f.2.2]))=_
 rw[dX,dX];unfold jQ;simp
theorem fK:∀(w rest:List Nat),(∀c∈w,dl c=false)->fJ rest->wd (w++rest)=w/\wr (w++rest)=rest:=by
 intro w rest hw h
 induction w generalizing rest h with
 |nil=>
  cases rest with
  |nil=>exact⟨rfl,rfl⟩
  |cons c r=>
    have:=h c r rfl;unfold wd wr;rw[Zk,takeWhile_cons];exact Er List.dropWhile_cons (Er this (⟨rfl,rfl⟩))
 |cons a w ih=>
   unfold wd wr at *;exact Er cons_append (Er takeWhile_cons (Er List.dropWhile_cons (Er (hw a Zn) (⟨Y2 (a :: ·) (ih rest (hG hw) h).1,(ih rest (hG hw) h).2⟩))))
theorem xr (h:i.natAbs<10 ^ 18):xu (cK i)=some i:=by
 have N:=xB h;have ip:=N.ne;have wb:=N.le;have hf:gp (dI i.natAbs)=true:=by
  unfold gp;refine Er (Y0 ip) (Er (Y0 wb) (Er (all_eq_true.mpr λc hc=>(sd (N.dg c hc)).1) ?_));rfl
 have e:dh (cK i)=dI i.natAbs:=by
  unfold cK
  by_cases q:i<0
  .refine Er (YV q) ?_;rfl
  .refine Er (YW q) ?_
   refine YW λz=>?_
   have:=nB z;have:=(N.dg 45 (by refine Er this ?_;exact Zn)).1;exact(Lf [] [Gl (.c 48) (.c 45)] rfl this)
 unfold xu;exact Er e (Er (YV hf) (Er (vc h) rfl))
theorem fD {x:Nat} {l:List Nat} (h:c≠x):¬(c::l).take 1=[x]:=λe=>h (by injection e)
theorem Dg (q:s.take 1=[91]):val (r+1) s=(bT (val r) Sz (s.drop 1)).map λp=>(.tuple p.1,p.2):=by
 unfold val;exact YV q
theorem Df (q:¬s.take 1=[91]):val (r+1) s=(xu (wd s)).map λi=>(.int i,wr s):=by
 unfold val;exact YW q
theorem De {f:Nat} (q:s.take 1=[93]):bT v (f+1) s=some ([],s.drop 1):=by
 unfold bT;exact YV q
theorem GE {f:Nat} (q:¬s.take 1=[93]) (e:v s=some (d,s1)) (q1:s1.take 1=[32]):bT v (f+1) s=(bT v f (s1.drop 1)).map λp=>(d::p.1,p.2):=by
 rw[bT];exact Er (YW q) (Er e (YV q1))
theorem GF {f:Nat} (q:¬s.take 1=[93]) (e:v s=some (d,s1)) (q1:s1.take 1=[93]):bT v (f+1) s=(bT v f s1).map λp=>(d::p.1,p.2):=by
 rw[bT];refine Er (YW q) ?_;refine Er e ?_;exact(YW (by refine Er q1 ?_;intro z;cases z)).trans (YV q1)
mutual
theorem re:∀(d:D) (r:Nat),good d=true->wt d<=50->dep d<r-> ∀rest,fJ rest->val r (kq d++rest)=some (d,rest)
 |d,0,_,_,h,_,_=>absurd h (not_lt_zero _)
 |.int i,r+1,hg,_,_,rest,he=>by
  refine fW (ng hg) λc l Q=>?_;have hc:=Q.1;have hv:=Q.2
  have hc:cK i=c::l:=hc;have q:¬(cK i++rest).take 1=[91]:=by
   refine Er hc ?_;refine fD λz=>?_
   have:=(gW (cE hg)).sg c (by refine Er hc ?_;exact Zn);exact(Y4 this (λe5=>(Lf [c] [Gf .x (.c 91),Ge .x (.c 45)] rfl z e5)) (λe5=>(Lf [c] [Gf .x (.c 91),Gl .x (.c 57)] rfl z e5.2)))
  refine(Df (s:=cK i++rest) q).trans ?_;refine Er (fK (cK i) rest (yn (cE hg)) he).1 (Er (fK (cK i) rest (yn (cE hg)) he).2 (Er (xr (cE hg)) ?_));rfl
 |.tuple ds,r+1,hg,hw,hd,rest,he=>by
  have:=nj ds r hg (L1 [eN ds] .x (.c 50) (.a (.c 1) .x) (.c 50) rfl hw) (lt_of_succ_lt_succ hd) rest Sz (by show _<16777216;exact(Ln [ds.length,eN ds] (.w (.p 1 .x) (.c 16777216)) [Gl (.a (.c 1) .y) (.c 50),Gl .x .y] rfl hw (GC ds)));refine(Dg (s:=91::(au [32] (cD ds)++[93])++rest) rfl).trans ?_;show(bT (val r) Sz (au [32] (cD ds)++[93]++rest)).map _=_
  rw[ZM];refine Er this ?_;rfl
 |.none,_+1,h,_,_,_,_|.bool _,_+1,h,_,_,_,_|.str _,_+1,h,_,_,_,_|.list _,_+1,h,_,_,_,_|.dict _,_+1,h,_,_,_,_=>by cases h
theorem nj:∀(ds:List D) (r:Nat),cI ds=true->eN ds<=50->bK ds<r-> ∀rest f,ds.length<f->bT (val r) f (au [32] (cD ds)++93::rest)=some (ds,rest)
 |ds,r,_,_,_,rest,0,hf=>absurd hf (not_lt_zero _)
 |[],r,_,_,_,rest,f+1,hf=>De rfl
 |[d],r,hg,hw,hd,rest,f+1,hf=>by
  have hg:(good d&&cI [])=true:=hg;rw[Z7]at hg;have hd:=hd;have hw:=hw;obtain⟨c,l,u⟩:=ng hg.1;have hc:=u.1;have hv:=u.2;have c9:c≠93:=by unfold IF at hv;exact(λkO=>(Y4 hv (λe5=>(Lf [c] [Gf .x (.c 93),Ge .x (.c 91)] rfl kO e5)) (λe5=>(Y4 e5 (λxH=>(Lf [c] [Gf .x (.c 93),Ge .x (.c 45)] rfl kO xH)) (λxH=>(Lf [c] [Gf .x (.c 93),Gl .x (.c 57)] rfl kO xH.2))))))
  refine(GF (s:=kq d++93::rest) (by refine Er hc ?_;exact fD c9) (re d r hg.1 (L1 [wt d] .x (.c 50) (.p 0 .x) (.c 50) rfl hw) (Ln [dep d,r,max (dep d) (0:Nat)] (.w (.p 1 .x) .y) [Gl (.p 1 .z) .y,Gf .z .x] rfl hd (Nat.max_eq_left (a:=dep d) (b:=(0:Nat)) (L0 [dep d] (.c 0) .x rfl))) (93::rest) (.of rfl)) rfl).trans ?_;refine Er (nj [] r rfl (Y8 _) (by show 0<r;exact(L1 [r,bK [d]] (.p 1 (.c 0)) .x (.p 1 .y) .x rfl ‹bK [d]<r›)) rest f (lt_of_succ_lt_succ hf) |> (show bT (val r) f (93::rest)=some ([],rest) from ·)) ?_
  rfl
 |d::e::es,r,hg,hw,hd,rest,f+1,hf=>by
  have hg:(good d&&cI (e::es))=true:=hg;rw[Z7]at hg;obtain⟨c,l,Z⟩:=ng hg.1;have hc:=Z.1;have hv:=Z.2;have c9:c≠93:=by unfold IF at hv;exact(λxR=>(Y4 hv (λeZ=>(Lf [c] [Gf .x (.c 93),Ge .x (.c 91)] rfl xR eZ)) (λeZ=>(Y4 eZ (λeY=>(Lf [c] [Gf .x (.c 93),Ge .x (.c 45)] rfl xR eY)) (λeY=>(Lf [c] [Gf .x (.c 93),Gl .x (.c 57)] rfl xR eY.2))))))
  have ht:au [32] (cD (d::e::es))++93::rest=kq d++32::(au [32] (cD (e::es))++93::rest):=by
   show(kq d++[32]++au [32] (cD (e::es)))++93::rest=_
   simp
  refine Er ht ?_;refine(GE (s:=kq d++32::(au [32] (cD (e::es))++93::rest)) (by refine Er hc ?_;exact fD c9) (re d r hg.1 (L1 [wt d,eN (e::es)] .x (.c 50) (.a .x .y) (.c 50) rfl hw) (Ln [dep d,r,max (dep d) (bK (e::es))] (.w (.p 1 .x) .y) [Gl (.p 1 .z) .y,Gl .x .z] rfl hd (le_max_left (dep d) (bK (e::es)))) (32::(au [32] (cD (e::es))++93::rest)) (.of rfl)) rfl).trans ?_;refine Er (nj (e::es) r hg.2 (L1 [eN (e::es),wt d] .x (.c 50) (.a .y .x) (.c 50) rfl hw) (Ln [bK (e::es),r,max (dep d) (bK (e::es))] (.w (.p 1 .x) .y) [Gl (.p 1 .z) .y,Gl .x .z] rfl hd (le_max_right (dep d) (bK (e::es)))) rest f (lt_of_succ_lt_succ hf)) ?_;rfl
end
theorem CP (q:¬s.take 1=[40]):cW (r+1) s=plain s:=by
 unfold cW;exact YW q
theorem y1 {h s2:List Nat} {ps:List T} (hh:∀c∈h,dl c=false) (hr:¬h=fL) (he:fJ s1) (e:cJ (cW r) Sz s1=some (ps,41::s2)):cW (r+1) (40::(h++s1))=some (fH h ps,s2):=by
 rw[cW];refine Er (YV (show(40::(h++s1)).take 1=[40] from rfl)) ?_;show(if wd (h++s1)=fL then _ else match cJ (cW r) Sz (wr (h++s1)) with
  |none=>none
  |some (ps,s2)=>if s2.take 1=[41] then some (fH (wd (h++s1)) ps,s2.drop 1) else none)=_
 refine Er ((fK h s1 hh he).1) ?_;rw[(fK h s1 hh he).2,YW hr,e];rfl
theorem IX {e:List Nat->Option (T×List Nat)} {f:Nat} (q:¬s.take 1=[32]):cJ e (f+1) s=some ([],s):=by
 unfold cJ;exact YW q
theorem IW {e:List Nat->Option (T×List Nat)} {f:Nat} {t:T} (h:e s=some (t,s1)):cJ e (f+1) (32::s)=(cJ e f s1).map λp=>(t::p.1,p.2):=by
 rw[cJ];refine Er (YV (show(32::s).take 1=[32] from rfl)) ?_;exact Er h rfl
theorem D4 (hg:good d=true) (hw:wt d<=50) (hd:dep d<50) (he:fJ rest):plain (kq d++rest)=some (.val d,rest)/\ ¬(kq d++rest).take 1=[40]:=by
 refine fW (ng hg) λc l q=>?_;have hc:=q.1;have hv:=q.2
 have OO:c≠40:=by unfold IF at hv;exact(λkP=>(Y4 hv (λxL=>(Lf [c] [Ge .x (.c 40),Gf .x (.c 91)] rfl kP xL)) (λxL=>(Y4 xL (λxK=>(Lf [c] [Ge .x (.c 40),Gf .x (.c 45)] rfl kP xK)) (λxK=>(Lf [c] [Ge .x (.c 40),Gl (.c 48) .x] rfl kP xK.1))))))
 refine⟨?_,by refine Er hc ?_;exact fD OO⟩;have hi:go (kq d++rest)=true:=by
  unfold go;refine Er hc ?_
  rcases hv with rfl|rfl|hf
  .rfl
  .rfl
  .have:=sd hf
   have hw:wd (c::l++rest)≠ []:=by
    unfold wd;refine Er cons_append (Er takeWhile_cons (Er this.2 ?_));intro z;cases z
   rw[Z4,Z4,Z7];refine .inr (.inr ⟨?_,?_⟩)
   .show([c].all figuresN.contains)=true
    refine Er ZO (Er this.1 ?_);rfl
   .cases h:wd (c::l++rest) with
    |nil=>exact absurd h hw
    |cons=>rfl
 unfold plain;refine Er (YV hi) (Er (re d 50 hg hw hd rest he) ?_);rfl
theorem D5 {x:List Nat} (hx:FT x) (he:fJ rest):plain (x++rest)=some (.nam ⟨⟨x⟩⟩,rest)/\ ¬(x++rest).take 1=[40]:=by
 refine fW hx.hd λc l q=>?_
 have hn:=Ep q.2;refine⟨?_,by refine Er q.1 ?_;exact fD hn.2.2.1⟩;have hi:go (x++rest)=false:=by
  unfold go;refine Er q.1 ?_;rw[or_eq_false_iff,or_eq_false_iff];refine⟨Y1 (fD hn.1),Y1 (fD hn.2.1),?_⟩;refine Er ZO (Er hn.2.2.2 ?_);rfl
 unfold plain;exact Er (YW (by refine Er hi ?_;intro z;cases z)) (Er (fK x rest hx.nd he).1 (Er (fK x rest hx.nd he).2 rfl))
theorem Jp (ps:List T):fH [105,102] ps = .iff ps:=YV rfl
theorem Jq {op:List Nat} (ps:List T) (h:cP ⟨⟨op⟩⟩=true):fH op ps = .doo ⟨⟨op⟩⟩ ps:=by
 unfold fH;rw[YW (λz=>by(subst z;have:cP ⟨⟨[105,102]⟩⟩=false:=by kernel_rfl);have h:=this▸h;cases h),YV h]
theorem Jr {f:List Nat} (ps:List T) (h:FT f):fH f ps = .call ⟨⟨f⟩⟩ ps:=by
 unfold fH;exact Er (YW (λz=>h.ni (by exact Er z rfl))) (Er (YW (by refine Er h.op ?_;intro z;cases z)) rfl)
mutual
theorem CO {ns:List Str} {cs:List (Str×Nat)} (hn:Nm ns cs):∀(t:T) (r:Nat),dJ ns cs r t=true->fG t<50-> ∀rest,fJ rest->cW r (tx t++rest)=some (t,rest)
 |t,0,h,_,_,_=>by cases t<;>cases h
 |.val d,r+1,h,hd,rest,he=>by
  have h:(good d&&decide (wt d<=50))=true:=h;rw[Z7]at h;have:=D4 h.1 (YU h.2) hd he;exact(CP this.2).trans this.1
 |.nam ⟨⟨x⟩⟩,r+1,h,_,rest,he=>by
  have:=D5 (j5 (hn.ns _ (bk.mp h))) he;exact(CP this.2).trans this.1
 |.ref ⟨⟨x⟩⟩,r+1,h,_,rest,he=>by
  have e1:tx (.ref ⟨⟨x⟩⟩)++rest=40::(fL++32::(x++41::rest)):=by
   show 40::(fL++[32]++x++[41])++rest=_
   simp
  refine Er e1 ?_;rw[cW];refine Er (YV (show(40::(fL++32::(x++41::rest))).take 1=[40] from rfl)) ?_;refine Er (fK fL (32::(x++41::rest)) (by decide) (.of rfl)).1 (Er (fK fL (32::(x++41::rest)) (by decide) (.of rfl)).2 (Er (YV rfl) ?_));refine Er (fK x (41::rest) (sX (bk.mp h)) (.of rfl)).1 (Er (fK x (41::rest) (sX (bk.mp h)) (.of rfl)).2 ?_);rfl
 |.iff ps,r+1,h,hd,rest,he=>by
  have h:(decide (ps.length=3)&&ps.all (dJ ns cs r))=true:=h;rw[Z7,ZN,YZ]at h;have:=oj hn ps r h.2 hd rest Sz (by refine Er h.1 ?_;decide);rw[show tx (.iff ps)++rest=40::([105,102]++(jQ (cS ps)++41::rest)) by
   show 40::(au [32] ([105,102]::cS ps)++[41])++rest=_;rw[dX];simp]
  refine Er (y1 (by decide) (by decide) (iV _ _) this) ?_;rw[Jp]
 |.doo ⟨⟨op⟩⟩ ps,r+1,h,hd,rest,he=>by
  have h:(cP ⟨⟨op⟩⟩&&(br ⟨⟨op⟩⟩ ps.length&&ps.all (dJ ns cs r)))=true:=h;rw[Z7,Z7,ZN]at h;have:=oj hn ps r h.2.2 hd rest Sz (lt_of_le_of_lt (uy h.2.1) (by decide));have ho:=Hm h.1;rw[show tx (.doo ⟨⟨op⟩⟩ ps)++rest=40::(op++(jQ (cS ps)++41::rest)) by
   show 40::(au [32] (op::cS ps)++[41])++rest=_;rw[dX];simp]
  exact Er (y1 ho.1 ho.2 (iV _ _) this) (Er (Jq ps h.1) rfl)
 |.call ⟨⟨op⟩⟩ ps,r+1,h,hd,rest,he=>by
  have h:(decide (cnt cs ⟨⟨op⟩⟩=some ps.length)&&ps.all (dJ ns cs r))=true:=h;rw[Z7,ZN,YZ]at h;have hN:=j5 (hn.cs _ _ h.1);have:=oj hn ps r h.2 hd rest Sz (lt_of_le_of_lt (hn.le _ _ h.1) (by decide));rw[show tx (.call ⟨⟨op⟩⟩ ps)++rest=40::(op++(jQ (cS ps)++41::rest)) by
   show 40::(au [32] (op::cS ps)++[41])++rest=_;rw[dX];simp]
  exact Er (y1 hN.nd (λz=>hN.nr (Er z rfl)) (iV _ _) this) (Er (Jr ps hN) rfl)
 |.odd _,r+1,h,_,_,_=>by cases h
theorem oj {ns:List Str} {cs:List (Str×Nat)} (hn:Nm ns cs):∀(ts:List T) (r:Nat),(∀t∈ts,dJ ns cs r t=true)->eh ts<50-> ∀rest f,ts.length<f->cJ (cW r) f (jQ (cS ts)++41::rest)=some (ts,41::rest)
 |ts,r,_,_,rest,0,hf=>absurd hf (not_lt_zero _)
 |[],r,_,_,rest,f+1,hf=>IX (fD (by decide))
 |t::ts,r,h,hd,rest,f+1,hf=>by
  rw[show jQ (cS (t::ts))++41::rest=32::(tx t++(jQ (cS ts)++41::rest)) by
   show((32::tx t)++jQ (cS ts))++41::rest=_
   rw[ZM];rfl]
  refine Er (IW (CO hn t r (h t Zn) (Ln [fG t,max (fG t) (eh ts)] (.w (.p 1 .x) (.c 50)) [Gl (.p 1 .y) (.c 50),Gl .x .y] rfl hd (le_max_left (fG t) (eh ts))) (jQ (cS ts)++41::rest) (iV _ _))) (Er (oj hn ts r (hG h) (Ln [eh ts,max (fG t) (eh ts)] (.w (.p 1 .x) (.c 50)) [Gl (.p 1 .y) (.c 50),Gl .x .y] rfl hd (le_max_right (fG t) (eh ts))) rest f (lt_of_succ_lt_succ hf)) ?_);rfl
end
theorem EJ (f:Fun):(qf f).map (λx=>(⟨⟨x⟩⟩:Str))=f.1::f.2.1:=by
 show(⟨⟨fE f.1⟩⟩:Str)::(f.2.1.map fE).map _=_
 refine Er Zs ?_
 congr 1
 exact map_id' _
theorem EU {f:Fun} (h:Fk cs f) (hd:fG f.2.2<50):vq (aO f)=some f:=by
 have J0:61∉au [32] (qf f):=λm=>by
  rcases mem_join m with m|⟨x,hx,m⟩
  .cases m
  .exact((qe h) x hx).2.2 m
 have hs:bq (aO f)=(au [32] (qf f),tx f.2.2):=by
  unfold bq;rw[eO];exact Er (po _ _ J0) rfl
 have he:=CO h.ns f.2.2 20 h.ok hd [] .nil;rw[ZL]at he;unfold vq;refine Er hs ?_;refine Er he (Er (rm 32 (fE f.1) (f.2.1.map fE) λx hx=>((qe h) x hx).2.1) ?_);have:=EJ f;have hm:(f.2.1.map fE).map (λx=>(⟨⟨x⟩⟩:Str))=f.2.1:=by exact Er Zs (map_id' _)
 exact Er hm rfl
theorem tU:∀ {fs:List Fun},(∀f∈fs,Fk cs f/\fG f.2.2<50)->fy (fs.map aO)=some fs:=by
 intro fs h
 induction fs with
 |nil=>exact rfl
 |cons f fs ih=>
  refine Er Zt ?_;rw[fy,EU (h f Zn).1 (h f Zn).2, ];refine Er (ih (hG h)) ?_;rfl
theorem nK {fs:List Fun} (h:∀f∈fs,Fk cs f):ak 10 (ar fs)=fs.map aO++[[]]:=by
 have:=kt (fs.map aO) λx hx=>by
  obtain⟨f,hf,rfl⟩:=mem_map.mp hx;exact kF (h f hf)
 have this:=Zs▸this;exact this
theorem G0 {fs:List Fun} (h:∀f∈fs,Fk cs f/\fG f.2.2<50) (hg:dK fs=true):rd (ar fs)=some fs:=by
 unfold rd;refine Er (nK λf hf=>(h f hf).1) ?_;rw[dropLast_concat,getLast?_concat,tU h,YW]
 .exact YV ⟨hg,rfl⟩
 rw[not_or,ZE,ZB];refine⟨?_,not_not_intro rfl⟩;cases fs with
 |nil=>exact absurd rfl ((dP hg).ne)
 |cons=>show ¬(_+1+1<2);omega
structure Me (t:List Nat) (gs:List Fun):Prop where
 len:2<=(ak 10 t).length
 last:(ak 10 t).getLast? = some []
 fs:fy (ak 10 t).dropLast=some gs
 good:dK gs=true
 txt:ar gs=t
theorem gn {gs:List Fun} (h:rd t=some gs):Me t gs:=by
 unfold rd at h
 by_cases q:(ak 10 t).length<2\/ ¬(ak 10 t).getLast? = some []
 .have h:=(YV q)▸h;exact ah h
 have h:=(YW q)▸h;cases e:fy (ak 10 t).dropLast with
 |none=>have h:=e▸h;exact ah h
 |some fs=>
  have h:=e▸h;dsimp only at h
  by_cases q2:dK fs=true/\ar fs=t
  .have h:=(YV q2)▸h;refine Er (aF h).symm ?_
   rw[not_or,Classical.not_not]at q;exact⟨Nat.le_of_not_lt q.1,q.2,e,q2.1,q2.2⟩
  .have h:=(YW q2)▸h;exact ah h
theorem yP:∀(a b:List (List Nat)) (gs:List Fun),fy (a++b)=some gs-> ∃x y,fy a=some x/\fy b=some y/\gs=x++y:=by
 intro a b gs h
 induction a generalizing b gs with
 |nil=>exact⟨[],gs,rfl,h,rfl⟩
 |cons r a ih=>
  rw[cons_append,fy]at h;cases e:vq r with
  |none=>have h:=e▸h;exact ah h
  |some f=>
   rw[e]at h;obtain⟨g',e',h⟩:=Z9 (show(fy (a++b)).map (f :: ·)=some gs from h);subst h;refine fW (ih b g' e') λx y q=>?_;refine Er q.2.2 ?_
   refine⟨f::x,y,?_,q.2.1,rfl⟩;rw[fy];refine Er e ?_;refine Er q.1 ?_;rfl
theorem cU (f:Fun) (fs:List Fun):ar (f::fs)=aO f++10::ar fs:=by
 unfold ar;refine Er Zt ?_;refine Er flatten_cons ?_;rw[ZM];rfl
theorem jv (a b:List Fun):ar (a++b)=ar a++ar b:=by
 unfold ar;exact Er Zu (Er List.flatten_append rfl)
theorem ot {gs:List Fun} (h:gs≠ []):∃x,ar gs=x++[10]:=by
 obtain⟨a,f,rfl⟩:∃a f,gs=a++[f]:=⟨gs.dropLast,gs.getLast h,(List.dropLast_concat_getLast h).symm⟩
 refine⟨ar a++aO f,?_⟩;rw[jv,cU,ZM];rfl
theorem HD {x:List Nat} (hc:c≠10) (ht:t=x++[c]):rd t=none:=by
 cases e:rd t with
 |none=>rfl
 |some gs=>
  refine aQ (ot (dP (gn e).good).ne) λz hz=>?_
  have:=(gn e).txt;rw[hz,ht]at this;have:=Y2 List.getLast? this;rw[getLast?_concat,getLast?_concat]at this;exact absurd (Y5 this).symm hc
theorem ue {gs:List Fun} (h:dK gs=true) {f:Fun} (hf:f∈gs):aH f.1=true:=(g9 (dP h).nms).1 _ (List.mem_map_of_mem hf)
theorem BD:vq []=some (⟨⟨[]⟩⟩,[],.nam ⟨⟨[]⟩⟩):=by kernel_rfl
theorem pE:aH ⟨⟨[]⟩⟩=false:=by kernel_rfl
theorem HB {fs:List Fun} (h:∀f∈fs,Fk cs f/\fG f.2.2<50):rd (ar fs++[10])=none:=by
 cases e:rd (ar fs++[10]) with
 |none=>rfl
 |some gs=>
  have hs:ak 10 (ar fs++[10])=fs.map aO++[[]]++[[]]:=by
   have:=kt (fs.map aO++[[]]) λx hx=>by
    rcases mem_append.mp hx with hx|hx
    .obtain⟨f,hf,rfl⟩:=mem_map.mp hx
     exact kF (h f hf).1
    .exact Er (List.mem_singleton.mp hx) (λz=>by cases z)
   rw[Zu,List.flatten_append,Zs]at this;exact this
  have hf:=(gn e).fs;rw[hs,dropLast_concat]at hf;obtain⟨x,y,h1,h2,rfl⟩:=yP _ _ _ hf;rw[fy,BD]at h2;obtain rfl:=aF h2;have:=ue (gn e).good (Zp x Zn);have this:=pE▸this;cases this
theorem HE {fs:List Fun} {f:Fun} (h:∀g∈fs++[f],Fk cs g/\fG g.2.2<50):rd (ar (fs++[f])++(aO f++[10]))=none:=by
 have e0:ar (fs++[f])++(aO f++[10])=ar (fs++[f]++[f]):=by
  refine Er (jv (fs++[f]) [f]) ?_;rw[cU];rfl
 have h':∀g∈fs++[f]++[f],Fk cs g/\fG g.2.2<50:=λg hg=>by
  rcases mem_append.mp hg with hg|hg
  .exact h g hg
  .exact h g (Zp _ hg)
 cases e:rd (ar (fs++[f])++(aO f++[10])) with
 |none=>rfl
 |some gs=>
  have hf:=(gn e).fs;rw[e0,nK λg hg=>(h' g hg).1,dropLast_concat,tU h']at hf;obtain rfl:=aF hf;have:=(g9 (dP (gn e).good).nms).2;rw[Zu,Zu,List.nodup_append]at this;exact absurd rfl (this.2.2 f.1 (Zp _ Zn) f.1 Zn)
theorem uU:∀l:List Nat,61∉l->cz [32,61,32] l=none:=by
 intro r h
 induction r with
 |nil=>exact rfl
 |cons c r ih=>
  have hr:61∉r:=λm=>h (Zo _ m)
  unfold cz;rw[YW];refine Er (ih hr) ?_;rfl;intro z;have:=List.isPrefixOf_iff_prefix.mp z;exact h (this.subset (Zo _ Zn))
theorem HF {r:List Nat} (ON:61∉r) (OQ:10∉r):rd (r++10::rest)=none:=by
 cases e:rd (r++10::rest) with
 |none=>rfl
 |some gs=>
  have hf:=(gn e).fs;have hf:=(nG 10 rest r OQ)▸hf;refine fW (eR 10 rest) λw ws ew=>?_
  have ed:(r::ak 10 rest).dropLast=r::(ak 10 rest).dropLast:=by refine Er ew ?_;rfl
  have hf:=ed▸hf;rw[fy]at hf;cases e1:vq r with
  |none=>have hf:=e1▸hf;exact ah hf
  |some f=>
   rw[e1]at hf;obtain⟨g',q⟩:=Z9 (show(fy (ak 10 rest).dropLast).map (f :: ·)=some gs from hf);have hm:f∈gs:=by exact Er q.2.symm Zn
   have hs:bq r=(r,[]):=by unfold bq;exact Er (uU r ON) rfl
   unfold vq at e1;have e1:=hs▸e1;have ee:cW 20 []=some (.nam ⟨⟨[]⟩⟩,[]):=by kernel_rfl
   have e1:=ee▸e1;have ht:f.2.2 = .nam ⟨⟨[]⟩⟩:=by refine Er (aF e1).symm ?_;rfl
   have G:=dP (gn e).good;have hb:=G.bd f hm;rw[ht]at hb;have:=(j2 (G.ok f hm)).2 _ (bk.mp hb);rw[pE]at this;cases this
theorem HC {r:List Nat} (hc:bl.contains c=false):rd (c::r)=none:=by
 cases e:rd (c::r) with
 |none=>rfl
 |some gs=>
  have ht:=(gn e).txt;cases gs with
  |nil=>exact absurd rfl (dP ((gn e).good)).ne
  |cons f gs=>
   have hN:aH ⟨⟨fE f.1⟩⟩=true:=ue ((gn e).good) Zn;refine fW ((j5 hN).hd) λa l q=>?_;have ha:=q.1;have hl:=q.2
   rw[cU,eO,dX,ha]at ht;have:a=c:=by injection ht
   have hl:=this▸hl;have hl:=hc▸hl;cases hl
noncomputable def pz:List (List Nat):=[[],[10],[97,32,61,32,10],[61,32,49,10],[97,32,61,32,49],[97,32,61,32,45,48,10],[97,32,61,32,40,98,41,10],[97,32,61,32,91,97,93,10],[97,32,98,32,61,32,40,91,98,93,41,10],[97,32,61,32,49,32,10],
 [97,32,61,32]++replicate 1200 40++[10],[97,32,61,32]++replicate 1200 91++replicate 1200 93++[10]]
theorem HA:(pz.all λt=>(rd t).isNone)=true:=by kernel_rfl
theorem tu:∀l:List Nat,(ak 10 l).length=l.count 10+1:=by
 intro r
 induction r with
 |nil=>exact rfl
 |cons x r IH=>
  have ih:=IH;refine fW (eR 10 r) λw ws e=>?_
  unfold ak
  by_cases q:x=10
  .exact Er (YV q) (Er ZD (Er ih (Er q (Er List.count_cons_self rfl))))
  .refine Er (YW q) (Er e ?_)
   rw[e]at ih;exact Er (count_cons_of_ne q) ih
noncomputable abbrev cts (ws:List (List Nat)):Nat:=(ws.map λw=>w.count 10).sum
theorem hV (a b:List (List Nat)):cts (a++b)=cts a+cts b:=by
 show((a++b).map _).sum=_;exact Er Zu (Er List.sum_append rfl)
theorem nS:∀ws:List (List Nat),(au [32] ws).count 10=cts ws:=by
 intro x1
 induction x1 with
 |nil=>exact rfl
 |cons w x2 ih=>
  cases x2 with
  |nil=>exact(Nat.add_zero _).symm
  |cons v r=>
    refine Er ZK (Er ZK (Er ih ?_));rfl
theorem xx:∀l:List Nat,cts (ak 32 l)=l.count 10:=by
 intro r
 induction r with
 |nil=>exact rfl
 |cons x r IH=>
  have ih:=IH;refine fW (eR 32 r) λw ws e=>?_
  unfold ak
  by_cases q:x=32
  .refine Er (YV q) ?_;subst q
   show 0+cts (ak 32 r)=_
   exact Er ih (Er (count_cons_of_ne (by decide)) (Le [List.count (10:Nat) r] (.e (.a (.c 0) .x) .x) [] rfl))
  .refine Er (YW q) (Er e ?_)
   rw[e]at ih;show(x::w).count 10+cts ws=_
   exact Er count_cons (Er count_cons (Le [List.count (10:Nat) w,if (x==(10:Nat))=true then(1:Nat) else(0:Nat),(List.map (λ(w:List Nat)=>List.count (10:Nat) w) ws).sum,List.count (10:Nat) r] (.e (.a (.a .x .y) .z) (.a .u .y)) [Gp (.a .x .z) .u] rfl ih))
theorem dF (h1:u.length<=16400000) (h2:u.count 10<=899):Tok u:=⟨h1,by rw[tu];exact(L1 [List.count (10:Nat) u] (.p 1 .x) (.c 900) .x (.c 899) rfl h2)⟩
theorem A0 {fs:List Fun} (h:∀f∈fs,Fk cs f):(ar fs).count 10=fs.length:=by
 have h1:=tu (ar fs);rw[nK h,ZE,ZB]at h1;have:([[]]:List (List Nat)).length=1:=rfl;exact(Le [List.count (10:Nat) (ar fs),fs.length] (.e .x .y) [Gq (.a .y (.p 1 (.c 0))) (.p 1 .x)] rfl h1)
structure Tx (t:List Nat):Prop where
 len:t.length<=8000400
 pos:1<=t.length
 nl:t.count 10<=10
theorem Tx.tok (h:Tx t):Tok t:=dF (by have:=h.len;exact(L1 [t.length] .x (.c 16400000) .x (.c 8000400) rfl this)) (by have:=h.nl;exact(L1 [List.count (10:Nat) t] .x (.c 899) .x (.c 10) rfl this))
theorem zr (t:List Nat) (k:Nat) (hk:k<=t.length):eS (sT t) .none (.int (k:Int))=some (.fz (sT (t.take k))):=by
 show some (Rv.fz (sT (cB t 0 (b3 t.length (k:Int)))))=_
 rw[cG];refine Er (Zd hk) ?_;unfold cB;refine Er ZI ?_;rw[Y9]
theorem ua (t:List Nat) (k:Nat) (hk:k<=t.length):eS (sT t) (.int (k:Int)) .none=some (.fz (sT (t.drop k))):=by
 show some (Rv.fz (sT (cB t (b3 t.length (k:Int)) t.length)))=_
 rw[cG];refine Er (Zd hk) ?_;unfold cB;exact Er (take_of_length_le (by refine Er ZC ?_;exact Zg _)) rfl
theorem Fa (t:List D) (k:Nat) (hk:k<=t.length):eS (.list t) .none (.int (k:Int))=some (.own (.list (t.take k))):=by
 show some (Rv.own (.list (cB t 0 (b3 t.length (k:Int)))))=_
 rw[cG];refine Er (Zd hk) ?_;unfold cB;refine Er ZI ?_;rw[Y9]
theorem zt (t:List D) (k:Nat) (hk:k<=t.length):eS (.list t) (.int (k:Int)) .none=some (.own (.list (t.drop k))):=by
 show some (Rv.own (.list (cB t (b3 t.length (k:Int)) t.length)))=_
 rw[cG];refine Er (Zd hk) ?_;unfold cB;exact Er (take_of_length_le (by refine Er ZC ?_;exact Zg _)) rfl
noncomputable abbrev signs:List Nat:=[32,40,41,91,93,61,45,48,97,49,10,9,65,46]
theorem Av (c:Int):∃g,fU (S signs) (.int (c.fmod 14))=some (sT [g]):=by
 have h:=fm c 14 (by decide);obtain⟨k,hk⟩:∃k:Nat,c.fmod 14=k:=⟨(c.fmod 14).toNat,by exact((ZQ (a:=c.fmod (14:Int)) (Li [c.fmod (14:Int)] (.i (.c 0) .x) [Gi (.c 0) .x] rfl h.1)).symm)⟩
 rw[hk]at h ⊢;have hl:k<signs.length:=by show k<14;exact(Ln [k] (.w (.p 1 .x) (.c 14)) [Gi (.p 1 (.n .x)) (.c 14)] rfl h.2)
 refine⟨signs[k],?_⟩;show(aW signs (k:Int)).map (λc=>str ⟨#[c]⟩)=_
 unfold aW;refine Er (YV (by exact(Ln [k] (.i (.c 0) (.n .x)) [Gi (.c 0) (.n .x)] rfl h.1))) ?_;rw[ZR];refine Er (ZG hl) ?_;rfl
end Lq
end
variable {ns:List PySem.Str} {ps:List Lq.T} {f:Lq.Fun} {hs:List Lq.Hd} {fs gs:List Lq.Fun}
section
set_option maxHeartbeats 4000000
namespace Lq
open PySem Mv
structure Cx (n:Nat) (t:List Nat) (cell:Int) (a p:Nat) (g:Nat) (ws:List (List Nat)):Prop where
 ln:dD .len [sT t]=some (.fz (.int (t.length:Nat)))
 md:op2 .mod (.int cell) (.int (t.length:Nat))=some (.fz (.int (a:Int)))
 al:a<t.length
 sg:fU (S signs) (.int ((cell.fdiv 997).fmod 14))=some (sT [g])
 ww:ws=ak 32 t
 sp:dD .split [sT t,S [32]]=some (.own (.list (ws.map sT)))
 wn:dD .len [.list (ws.map sT)]=some (.fz (.int ((ws.map sT).length:Nat)))
 wm:op2 .mod (.int cell) (.int ((ws.map sT).length:Nat))=some (.fz (.int (p:Int)))
 pl:p<ws.length
theorem cx (n:Nat) (hT:Tx t) (cell:Int):∃a p g ws,Cx n t cell a p g ws:=by
 have hl:=hT.len;have hp:=hT.pos;have HX:∀k:Nat,1<=k-> ∃a:Nat,a<k/\op2 .mod (.int cell) (.int (k:Nat))=some (.fz (.int (a:Int))):=λk hk=>by
  have h:=fm cell k (Ln [k] (.i (.p 1 (.c 0)) (.n .x)) [Gl (.c 1) .x] rfl hk);obtain⟨a,ha⟩:∃a:Nat,cell.fmod k=a:=⟨(cell.fmod k).toNat,by exact((ZQ (a:=cell.fmod (↑k:Int)) (Li [cell.fmod (↑k:Int)] (.i (.c 0) .x) [Gi (.c 0) .x] rfl h.1)).symm)⟩
  refine⟨a,by exact(d7 [a,k] [cell.fmod (↑k:Int)] 1 (.w (.p 1 .x) .y) [Gi (.p 1 .x) (.n .y),Gk .x (.n .x)] rfl h.2 ha),?_⟩;show(if (k:Int)=0 then none else some (Rv.fz (.int (cell.fmod k))))=_
  exact Er (YW (by exact(λe6=>(Lf [k] [Gl (.c 1) .x,Gj (.n .x) (.c 0)] rfl hk e6)))) (Er ha rfl)
 obtain⟨a,q⟩:=HX t.length hp;obtain⟨g,sg⟩:=Av (cell.fdiv 997);refine fW (eR 32 t) λw ws ew=>?_
 obtain⟨p,pl,wm⟩:=HX ((ak 32 t).map sT).length (by rw[ZB];refine Er ew ?_;refine Er ZD ?_;exact(L0 [ws.length] (.c 1) (.p 1 .x) rfl));refine⟨a,p,g,ak 32 t,rfl,q.2,q.1,sg,rfl,?_,rfl,wm,by rw[ZB]at pl;exact pl⟩;show(if t.length+2<=Sz/\32<128 then some (Rv.own (.list ((ak 32 t).map sT))) else none)=_
 exact Er (YV ⟨by show _<=16777216;exact(L1 [t.length] (.p 2 .x) (.c 16777216) .x (.c 8000400) rfl hl),by decide⟩) rfl
abbrev lV (n:Nat) (t:List Nat) (way cell:Int) (u:List Nat):Prop:=cF P (n+1) false 39 [.fz (sT t),.fz (.int way),.fz (.int cell)]=some (.ok (.fz (sT u)),[])
theorem A4 (way:Int) (k:Int):ag .lt (.int way) (.int k)=some (decide (way<k)):=bz _ _
theorem z8 (way:Int) (k:Int):ag .eq (.int way) (.int k)=some (decide (way=k)):=dY _ _
theorem Fj (n:Nat) (hT:Tx t) (way cell:Int) (hw:0<=way/\way<13):∃u,lV n t way cell u/\Tok u:=by
 refine oI (cx n hT cell) λa p g ws C=>?_
 have c1:=C.ln;have c2:=C.md;have c3:=C.sg;have al:=C.al;have hl:=hT.len;have hn:=hT.nl;have t1:=Zw (i:=a) (l:=t);have t3:=ZC (i:=a+1) (l:=t);have n1:=(take_sublist a t).count_le 10;have h5:=A4 way 5;have h9:=A4 way 9;have h13:=A4 way 13;have a1:op2 .add (sT (t.take a)) (sT [g])=some (.fz (sT (t.take a++[g]))):=bV (by show _+1<=16777216;exact(Ln [(take a t).length,a,t.length,min a t.length] (.w (.p 1 .x) (.c 16777216)) [Gl (.p 1 .y) .z,Gl .z (.c 8000400),Ge .x .u,Ge .u .y] rfl al hl t1 (Zd (a:=a) (b:=t.length) (L1 [a,t.length] .x .y (.p 1 .x) .y rfl al))))
 by_cases q5:way<5
 .have h5:=(Y0 q5)▸h5
  have a2:op2 .add (sT (t.take a++[g])) (sT (t.drop a))=some (.fz (sT (t.take a++[g]++t.drop a))):=bV (by refine Er ZE (Er Zx ?_);show _<=16777216;exact(Ln [(take a t).length,(drop a t).length,t.length,min a t.length,t.length-a,a] (.w (.a (.p 1 .x) .y) (.c 16777216)) [Gl .z (.c 8000400),Ge .x .u,Ge .y (.v 4),Ge .u (.v 5),Ge (.a (.v 4) (.v 5)) .z] rfl hl t1 (ZC (i:=a) (l:=t)) (Zd (a:=a) (b:=t.length) (L1 [a,t.length] .x .y (.p 1 .x) .y rfl al)) (Za (n:=t.length) (m:=a) (L1 [a,t.length] .x .y (.p 1 .x) .y rfl al))));refine⟨t.take a++[g]++t.drop a,?_,dF (by refine Er ZE (Er ZE (Er Zx ?_));exact(Ln [(take a t).length,(drop a t).length,t.length,min a t.length,t.length-a,a] (.w (.a (.p 1 .x) .y) (.c 16400000)) [Gl .z (.c 8000400),Ge .x .u,Ge .y (.v 4),Ge .u (.v 5),Ge (.a (.v 4) (.v 5)) .z] rfl hl t1 (ZC (i:=a) (l:=t)) (Zd (a:=a) (b:=t.length) (L1 [a,t.length] .x .y (.p 1 .x) .y rfl al)) (Za (n:=t.length) (m:=a) (L1 [a,t.length] .x .y (.p 1 .x) .y rfl al)))) (by refine Er ZK (Er ZK ?_);exact(Ln [List.count (10:Nat) (take a t),List.count (10:Nat) [g],List.count (10:Nat) (drop a t),List.count (10:Nat) t] (.w (.a (.a .x .y) .z) (.c 899)) [(2,.w .u (.c 10)),Gl .x .u,Gl .z .u,Gl .y (.c 1)] rfl hn n1 ((drop_sublist a t).count_le 10) List.count_le_length))⟩;unfold lV;exact aJ [.v 0 c1,.v 0 c2,.d 2 c3,.b 0 h5,.v 1 ((zr t a (Nat.le_of_lt al))),.v 0 a1,.v 0 ((ua t a (Nat.le_of_lt al))),.v 0 a2] rfl
 rw[Y1 q5]at h5
 by_cases q9:way<9
 .rw[Y0 q9]at h9
  have a2:op2 .add (sT (t.take a)) (sT (t.drop (a+1)))=some (.fz (sT (t.take a++t.drop (a+1)))):=bV (by show _<=16777216;exact(Ln [(take a t).length,(drop (a+1) t).length,t.length,min a t.length,t.length-(a+1),a] (.w (.a .x .y) (.c 16777216)) [Gl .z (.c 8000400),Ge .x .u,Ge .y (.v 4),Ge .u (.v 5),Ge (.a (.v 4) (.p 1 (.v 5))) .z] rfl hl t1 t3 (Zd (a:=a) (b:=t.length) (L1 [a,t.length] .x .y (.p 1 .x) .y rfl al)) (Za (n:=t.length) (m:=a+(1:Nat)) (L1 [a,t.length] (.p 1 .x) .y (.p 1 .x) .y rfl al))));refine⟨t.take a++t.drop (a+1),?_,dF (by refine Er ZE ?_;exact(Ln [(take a t).length,(drop (a+1) t).length,t.length,min a t.length,t.length-(a+1),a] (.w (.a .x .y) (.c 16400000)) [Gl .z (.c 8000400),Ge .x .u,Ge .y (.v 4),Ge .u (.v 5),Ge (.a (.v 4) (.p 1 (.v 5))) .z] rfl hl t1 t3 (Zd (a:=a) (b:=t.length) (L1 [a,t.length] .x .y (.p 1 .x) .y rfl al)) (Za (n:=t.length) (m:=a+(1:Nat)) (L1 [a,t.length] (.p 1 .x) .y (.p 1 .x) .y rfl al)))) (by refine Er ZK ?_;exact(Ln [List.count (10:Nat) (take a t),List.count (10:Nat) (drop (a+(1:Nat)) t),List.count (10:Nat) t] (.w (.a .x .y) (.c 899)) [(2,.w .z (.c 10)),Gl .x .z,Gl .y .z] rfl hn n1 ((drop_sublist (a+1) t).count_le 10)))⟩;unfold lV;exact aJ [.v 0 c1,.v 0 c2,.d 2 c3,.b 0 h5,.b 1 h9,.v 1 ((zr t a (Nat.le_of_lt al))),.v 1 ((ua t (a+1) al)),.v 0 a2] rfl
 rw[Y1 q9]at h9;rw[Y0 hw.2]at h13;have a2:op2 .add (sT (t.take a++[g])) (sT (t.drop (a+1)))=some (.fz (sT (t.take a++[g]++t.drop (a+1)))):=bV (by refine Er ZE (Er Zx ?_);show _<=16777216;exact(Ln [(take a t).length,(drop (a+1) t).length,t.length,min a t.length,t.length-(a+1),a] (.w (.a (.p 1 .x) .y) (.c 16777216)) [Gl .z (.c 8000400),Ge .x .u,Ge .y (.v 4),Ge .u (.v 5),Ge (.a (.v 4) (.p 1 (.v 5))) .z] rfl hl t1 t3 (Zd (a:=a) (b:=t.length) (L1 [a,t.length] .x .y (.p 1 .x) .y rfl al)) (Za (n:=t.length) (m:=a+(1:Nat)) (L1 [a,t.length] (.p 1 .x) .y (.p 1 .x) .y rfl al))));refine⟨t.take a++[g]++t.drop (a+1),?_,dF (by refine Er ZE (Er ZE (Er Zx ?_));exact(Ln [(take a t).length,(drop (a+1) t).length,t.length,min a t.length,t.length-(a+1),a] (.w (.a (.p 1 .x) .y) (.c 16400000)) [Gl .z (.c 8000400),Ge .x .u,Ge .y (.v 4),Ge .u (.v 5),Ge (.a (.v 4) (.p 1 (.v 5))) .z] rfl hl t1 t3 (Zd (a:=a) (b:=t.length) (L1 [a,t.length] .x .y (.p 1 .x) .y rfl al)) (Za (n:=t.length) (m:=a+(1:Nat)) (L1 [a,t.length] (.p 1 .x) .y (.p 1 .x) .y rfl al)))) (by refine Er ZK (Er ZK ?_);exact(Ln [List.count (10:Nat) (take a t),List.count (10:Nat) [g],List.count (10:Nat) (drop (a+(1:Nat)) t),List.count (10:Nat) t] (.w (.a (.a .x .y) .z) (.c 899)) [(2,.w .u (.c 10)),Gl .x .u,Gl .z .u,Gl .y (.c 1)] rfl hn n1 ((drop_sublist (a+1) t).count_le 10) List.count_le_length))⟩;unfold lV;exact aJ [.v 0 c1,.v 0 c2,.d 2 c3,.b 0 h5,.b 1 h9,.b 1 h13,.v 1 ((zr t a (Nat.le_of_lt al))),.v 0 a1,.v 1 ((ua t (a+1) al)),.v 0 a2] rfl
theorem mZ {x z:List D} (h:x.length+z.length<=16777216):op2 .add (.list x) (.list z)=some (.own (.list (x++z))):=YV h
theorem BZ (n:Nat) (hT:Tx t) (way cell:Int) (hw:13<=way/\way<=15):∃u,lV n t way cell u/\Tok u:=by
 refine oI (cx n hT cell) λa p g ws C=>?_
 have c1:=C.ln;have c2:=C.md;have c3:=C.sg;have al:=C.al;have c4:=C.sp;have c5:=C.wn;have c6:=C.wm;have pl:=C.pl;have hl:=hT.len;have hn:=hT.nl;have h5:ag .lt (.int way) (.int 5)=some false:=by rw[A4,Y1 (by exact(λHR=>(dW [] [way] [Gi (.c 13) .x,Gi (.p 1 .x) (.c 5)] rfl hw.1 HR)))]
 have h9:ag .lt (.int way) (.int 9)=some false:=by rw[A4,Y1 (by exact(λxO=>(dW [] [way] [Gi (.c 13) .x,Gi (.p 1 .x) (.c 9)] rfl hw.1 xO)))]
 have h13:ag .lt (.int way) (.int 13)=some false:=by rw[A4,Y1 (by exact(λpH=>(dW [] [way] [Gi (.c 13) .x,Gi (.p 1 .x) (.c 13)] rfl hw.1 pH)))]
 have e13:=z8 way 13;have e14:=z8 way 14;have e15:=z8 way 15;have tt:=gX 32 t;have nn:=xx t;rw[<- C.ww]at tt nn;have ew:ws=ws.take p++ws[p]::ws.drop (p+1):=by
  exact(List.take_append_drop p ws).symm.trans (Er (ZJ pl) rfl)
 generalize hA:ws.take p=A at ew;generalize hB:ws.drop (p+1)=B at ew;generalize hW:ws[p]=W at ew;have Dl:bf A+(W.length+1+bf B)=t.length+1:=by refine Er tt.symm ?_;refine Er ew ?_;rw[cc,aD]
 have KL:cts A+(W.count 10+cts B)=t.count 10:=by refine Er nn.symm ?_;refine Er ew ?_;rw[hV];rfl
 have wl:ws.length<=t.length+1:=by
  have:∀l:List (List Nat),l.length<=bf l:=λl=>by
   induction l with
   |nil=>exact Zg _
   |cons x l ih=>rw[aD];exact Er ZD (L1 [l.length,x.length,bf l] (.p 1 .x) (.a (.p 1 .y) .z) .x .z rfl ih)
  have:=this ws;exact(Ln [ws.length,t.length,bf ws] (.w .x (.p 1 .y)) [Ge .z (.p 1 .y),Gl .x .z] rfl tt this)
 have la:(A.map sT).length<=ws.length:=by rw[ZB];exact Er hA.symm (Er Zw (Ln [min p ws.length,ws.length,p] (.w .x .y) [Gl (.p 1 .z) .y,Ge .x .z] rfl pl (Zd (a:=p) (b:=ws.length) (L1 [p,ws.length] .x .y (.p 1 .x) .y rfl pl))))
 have lb:(B.map sT).length<=ws.length:=by rw[ZB];exact Er hB.symm (Er ZC (Ln [ws.length-(p+1),ws.length,p] (.w .x .y) [Ge (.a .x (.p 1 .z)) .y] rfl (Za (n:=ws.length) (m:=p+(1:Nat)) (L1 [p,ws.length] (.p 1 .x) .y (.p 1 .x) .y rfl pl))))
 have s1:eS (.list (ws.map sT)) .none (.int (p:Int))=some (.own (.list (A.map sT))):=by
  exact Er (Fa _ p (by rw[ZB];exact(L1 [p,ws.length] .x .y (.p 1 .x) .y rfl pl))) (Er List.map_take.symm (Er hA rfl))
 have s2:eS (.list (ws.map sT)) (.int (p:Int)) .none=some (.own (.list ((W::B).map sT))):=by
  exact Er (zt _ p (by rw[ZB];exact(L1 [p,ws.length] .x .y (.p 1 .x) .y rfl pl))) (Er map_drop.symm (Er (ZJ pl) (Er hB (Er hW rfl))))
 have s3:eS (.list (ws.map sT)) (.int ((p:Int)+1)) .none=some (.own (.list (B.map sT))):=by
  have:=zt (ws.map sT) (p+1) (by rw[ZB];exact(L1 [p,ws.length] (.p 1 .x) .y (.p 1 .x) .y rfl pl));rw[<- map_drop,hB]at this;exact this
 have ix:fU (.list (ws.map sT)) (.int (p:Int))=some (sT W):=by
  show aW (ws.map sT) (p:Int)=_
  unfold aW;refine Er (YV (by exact(Ln [p] (.i (.c 0) (.n .x)) [] rfl))) ?_;rw[ZR,ZF,ZG pl];refine Er hW ?_;rfl
 by_cases q3:way=13
 .have e13:=(Y0 q3)▸e13
  have j:=jH (l:=A++B) (by rw[cc];show _<=16777216;exact(Ln [bf A,bf B,t.length,W.length] (.w (.a .x .y) (.c 16777216)) [Gl .z (.c 8000400),Ge (.a .x (.a (.p 1 .u) .y)) (.p 1 .z)] rfl hl Dl)) _ (Zu (f:=sT)).symm;have jl:=dr 32 (A++B);rw[cc]at jl;refine⟨au [32] (A++B),?_,dF (Ln [(au [32] (A++B)).length,t.length,bf A,W.length,bf B] (.w .x (.c 16400000)) [Gl .y (.c 8000400),Ge (.a .z (.a (.p 1 .u) (.v 4))) (.p 1 .y),Gl .x (.a .z (.v 4))] rfl hl Dl jl) (by rw[nS,hV];exact(Ln [(List.map (λ(w:List Nat)=>List.count (10:Nat) w) A).sum,(List.map (λ(w:List Nat)=>List.count (10:Nat) w) B).sum,List.count (10:Nat) t,List.count (10:Nat) W] (.w (.a .x .y) (.c 899)) [Gl .z (.c 10),Ge (.a .x (.a .u .y)) .z] rfl hn KL))⟩;unfold lV;exact aJ [.v 0 c1,.v 0 c2,.d 2 c3,.b 0 h5,.b 1 h9,.b 1 h13,.v 1 c4,.v 0 c5,.v 0 c6,.b 0 e13,.v 1 s1,.v 1 s3,.v 0 ((mZ (x:=A.map sT) (z:=B.map sT) (Ln [(List.map sT A).length,(List.map sT B).length,t.length,ws.length] (.w (.a .x .y) (.c 16777216)) [(2,.w .z (.c 8000400)),(2,.w .u (.p 1 .z)),Gl .x .u,Gl .y .u] rfl hl wl la lb))),.v 0 j] rfl
 rw[Y1 q3]at e13
 by_cases q4:way=14
 .rw[Y0 q4]at e14
  have a1:=mZ (x:=A.map sT) (z:=[sT W]) (by show _+1<=_;exact(Ln [(List.map sT A).length,t.length,ws.length] (.w (.p 1 .x) (.c 16777216)) [Gl .y (.c 8000400),Gl .z (.p 1 .y),Gl .x .z] rfl hl wl la));have eB:((W::B).map sT).length=(B.map sT).length+1:=rfl;have a2:=mZ (x:=A.map sT++[sT W]) (z:=(W::B).map sT) (by refine Er ZE (Er eB ?_);show _+1+_<=_;exact(Ln [(List.map sT A).length,(List.map sT B).length,t.length,ws.length] (.w (.a (.p 1 .x) (.p 1 .y)) (.c 16777216)) [(2,.w .z (.c 8000400)),(2,.w .u (.p 1 .z)),Gl .x .u,Gl .y .u] rfl hl wl la lb));have j:=jH (l:=A++[W]++W::B) (by rw[cc,cc,aD,aD];show _+(_+0)+_<=16777216;exact(Ln [bf A,W.length,bf B,t.length] (.w (.a (.a .x (.p 0 (.p 1 .y))) (.a (.p 1 .y) .z)) (.c 16777216)) [(2,.w .u (.c 8000400)),(2,.e (.a .x (.a (.p 1 .y) .z)) (.p 1 .u))] rfl hl Dl)) (A.map sT++[sT W]++(W::B).map sT) (by refine Er Zu (Er Zu ?_);rfl);have jl:=dr 32 (A++[W]++W::B);rw[cc,cc,aD,aD]at jl;have jl:=jl;refine⟨au [32] (A++[W]++W::B),?_,dF (Ln [(au [32] (A++[W]++W::B)).length,t.length,bf A,W.length,bf B] (.w .x (.c 16400000)) [(2,.w .y (.c 8000400)),(2,.e (.a .z (.a (.p 1 .u) (.v 4))) (.p 1 .y)),Gl .x (.a (.a .z (.p 0 (.p 1 .u))) (.a (.p 1 .u) (.v 4)))] rfl hl Dl jl) (by rw[nS,hV,hV];show _+(W.count 10+0)+(W.count 10+cts B)<=_;exact(Ln [(List.map (λ(w:List Nat)=>List.count (10:Nat) w) A).sum,List.count (10:Nat) W,(List.map (λ(w:List Nat)=>List.count (10:Nat) w) B).sum,List.count (10:Nat) t] (.w (.a (.a .x (.p 0 .y)) (.a .y .z)) (.c 899)) [(2,.w .u (.c 10)),(2,.e (.a .x (.a .y .z)) .u)] rfl hn KL))⟩;unfold lV;exact aJ [.v 0 c1,.v 0 c2,.d 2 c3,.b 0 h5,.b 1 h9,.b 1 h13,.v 1 c4,.v 0 c5,.v 0 c6,.b 0 e13,.b 1 e14,.v 1 s1,.d 0 ix,.v 0 a1,.v 0 s2,.v 0 a2,.v 0 j] rfl
 rw[Y1 q4]at e14;rw[Y0 (by exact(Int.le_antisymm (Li [way] (.i .x (.c 15)) [Gi .x (.c 15)] rfl hw.2) (Y4 (ZT q3) (λxF=>(d7 [] [way] 0 (.i (.c 15) .x) [Gi (.c 13) .x,Gi (.p 1 .x) (.c 13)] rfl hw.1 xF)) (λxF=>(Y4 (ZT q4) (λxE=>(d7 [] [way] 0 (.i (.c 15) .x) [Gi (.p 1 (.c 13)) .x,Gi (.p 1 .x) (.c 14)] rfl xF xE)) (λxE=>(Li [way] (.i (.c 15) .x) [Gi (.p 1 (.c 14)) .x] rfl xE)))))))]at e15;have a0:op2 .add (S [48]) (sT W)=some (.fz (sT (48::W))):=bV (a:=[48]) (by show 1+_<=16777216;exact(Ln [W.length,t.length,bf A,bf B] (.w (.a (.c 1) .x) (.c 16777216)) [Gl .y (.c 8000400),Ge (.a .z (.a (.p 1 .x) .u)) (.p 1 .y)] rfl hl Dl));have a1:=mZ (x:=A.map sT) (z:=[sT (48::W)]) (by show _+1<=_;exact(Ln [(List.map sT A).length,t.length,ws.length] (.w (.p 1 .x) (.c 16777216)) [Gl .y (.c 8000400),Gl .z (.p 1 .y),Gl .x .z] rfl hl wl la));have a2:=mZ (x:=A.map sT++[sT (48::W)]) (z:=B.map sT) (by refine Er ZE ?_;show _+1+_<=_;exact(Ln [(List.map sT A).length,(List.map sT B).length,t.length,ws.length] (.w (.a (.p 1 .x) .y) (.c 16777216)) [(2,.w .z (.c 8000400)),(2,.w .u (.p 1 .z)),Gl .x .u,Gl .y .u] rfl hl wl la lb));have j:=jH (l:=A++[48::W]++B) (by rw[cc,cc,aD];refine Er ZD ?_;show _+(_+0)+_<=16777216;exact(Ln [bf A,W.length,bf B,t.length] (.w (.a (.a .x (.p 0 (.p 1 (.p 1 .y)))) .z) (.c 16777216)) [Gl .u (.c 8000400),Ge (.a .x (.a (.p 1 .y) .z)) (.p 1 .u)] rfl hl Dl)) (A.map sT++[sT (48::W)]++B.map sT) (by refine Er Zu (Er Zu ?_);rfl);have jl:=dr 32 (A++[48::W]++B);rw[cc,cc,aD,ZD]at jl;have jl:=jl;refine⟨au [32] (A++[48::W]++B),?_,dF (Ln [(au [32] (A++[48::W]++B)).length,t.length,bf A,W.length,bf B] (.w .x (.c 16400000)) [Gl .y (.c 8000400),Ge (.a .z (.a (.p 1 .u) (.v 4))) (.p 1 .y),Gl .x (.a (.a .z (.p 0 (.p 1 (.p 1 .u)))) (.v 4))] rfl hl Dl jl) (by rw[nS,hV,hV];show _+((48::W).count 10+0)+_<=_;refine Er (count_cons_of_ne (by decide)) ?_;exact(Ln [(List.map (λ(w:List Nat)=>List.count (10:Nat) w) A).sum,List.count (10:Nat) W,(List.map (λ(w:List Nat)=>List.count (10:Nat) w) B).sum,List.count (10:Nat) t] (.w (.a (.a .x (.p 0 .y)) .z) (.c 899)) [Gl .u (.c 10),Ge (.a .x (.a .y .z)) .u] rfl hn KL))⟩;unfold lV;exact aJ [.v 0 c1,.v 0 c2,.d 2 c3,.b 0 h5,.b 1 h9,.b 1 h13,.v 1 c4,.v 0 c5,.v 0 c6,.b 0 e13,.b 1 e14,.b 1 e15,.v 1 s1,.d 0 ix,.v 0 a0,.v 0 a1,.v 1 s3,.v 0 a2,.v 0 j] rfl
abbrev Fd (cs:List (Str×Nat)) (fs:List Fun):Prop:= ∀f∈fs,Fk cs f/\fG f.2.2<50
structure Ws (way:Int):Prop where
 h5:ag .lt (.int way) (.int 5)=some false
 h9:ag .lt (.int way) (.int 9)=some false
 h13:ag .lt (.int way) (.int 13)=some false
 e13:ag .eq (.int way) (.int 13)=some false
 e14:ag .eq (.int way) (.int 14)=some false
 e15:ag .eq (.int way) (.int 15)=some false
theorem ml {way:Int} (h:16<=way):Ws way:=
 ⟨by rw[A4,Y1 (by exact(λjz=>(dW [] [way] [Gi (.c 16) .x,Gi (.p 1 .x) (.c 5)] rfl h jz)))],by rw[A4,Y1 (by exact(λjz=>(dW [] [way] [Gi (.c 16) .x,Gi (.p 1 .x) (.c 9)] rfl h jz)))],by rw[A4,Y1 (by exact(λjz=>(dW [] [way] [Gi (.c 16) .x,Gi (.p 1 .x) (.c 13)] rfl h jz)))],by rw[z8,Y1 (by exact(λjz=>(dW [] [way] [Gi (.c 16) .x,Gj .x (.c 13)] rfl h jz)))],by rw[z8,Y1 (by exact(λjz=>(dW [] [way] [Gi (.c 16) .x,Gj .x (.c 14)] rfl h jz)))],by rw[z8,Y1 (by exact(λjz=>(dW [] [way] [Gi (.c 16) .x,Gj .x (.c 15)] rfl h jz)))]⟩
theorem Fu (n:Nat) {rest:List Fun} (hF:Fd cs (f::rest)) (hT:Tx (ar (f::rest))) (cell:Int):∃u,lV n (ar (f::rest)) 16 cell u/\Tok u/\rd u=none:=by
 have hf:=(hF f Zn).1;have J0:61∉au [32] (qf f):=λm=>by
  rcases mem_join m with m|⟨x,hx,m⟩
  .cases m
  .exact((qe hf) x hx).2.2 m
 have HI:10∉au [32] (qf f):=λm=>by
  rcases mem_join m with m|⟨x,hx,m⟩
  .cases m
  .exact((qe hf) x hx).1 m
 have et:ar (f::rest)=au [32] (qf f)++32::61::32::(tx f.2.2++10::ar rest):=by
  rw[cU,eO,ZM];rfl
 have hl:=hT.len;have Bq:=hT.nl;refine oI (cx n hT cell) λa p g ws C=>?_
 have c1:=C.ln;have c2:=C.md;have c3:=C.sg;have c4:=C.sp;have c5:=C.wn;have c6:=C.wm;have q:=ml (way:=16) (by decide);have eu:au [32] (qf f)++[32]++(tx f.2.2++10::ar rest)=(au [32] (qf f)++32::tx f.2.2)++10::ar rest:=by simp
 have hr:pc ⟨⟨ar (f::rest)⟩⟩=some (sT ((au [32] (qf f)++32::tx f.2.2)++10::ar rest)):=by
  unfold pc;refine Er (show(⟨⟨ar (f::rest)⟩⟩:Str).cps.toList=ar (f::rest) from rfl) (Er et (Er (po (tx f.2.2++10::ar rest) _ J0) ?_));dsimp only;rw[YV];exact Er eu rfl;exact Er et.symm (L1 [(ar (f::rest)).length] (.p 1 .x) (.c 16777216) .x (.c 8000400) rfl hl)
 refine⟨(au [32] (qf f)++32::tx f.2.2)++10::ar rest,?_,?_,HF ?_ ?_⟩
 .unfold lV
  exact aJ [.v 0 c1,.v 0 c2,.d 2 c3,.v 6 c4,.v 0 c5,.v 0 c6,.d 7 hr] rfl
 .refine dF ?_ ?_
  .have:=Y2 length et
   rw[ZE]at this;refine Er eu.symm (Er ZE (Er ZE (Er Zx ?_)));simp only[ZD]at this;exact(Ln [(au [32] (qf f)).length,(tx f.snd.snd++10::ar rest).length,(ar (f::rest)).length] (.w (.a (.p 1 .x) .y) (.c 16400000)) [Gl .z (.c 8000400),Gf .z (.a .x (.p 1 (.p 1 (.p 1 .y))))] rfl hl this)
  .have:=Y2 (List.count 10) et
   rw[ZK,count_cons_of_ne (by decide),count_cons_of_ne (by decide),count_cons_of_ne (by decide)]at this;refine Er eu.symm (Er ZK (Er ZK ?_));have z:([32]:List Nat).count 10=0:=by decide
   exact(Ln [List.count (10:Nat) (au [(32:Nat)] (qf f)),List.count (10:Nat) [(32:Nat)],List.count (10:Nat) (tx f.snd.snd++(10:Nat)::ar rest),List.count (10:Nat) (ar (f::rest))] (.w (.a (.a .x .y) .z) (.c 899)) [Gl .u (.c 10),Gf .u (.a .x .z),Ge .y (.c 0)] rfl Bq this z)
 .intro m
  rcases mem_append.mp m with m|m
  .exact J0 m
  .rcases mem_cons.mp m with m|m
   .cases m
   .exact oP (.inr (.inl rfl)) hf.ns _ _ hf.ok m
 .intro m
  rcases mem_append.mp m with m|m
  .exact HI m
  .rcases mem_cons.mp m with m|m
   .cases m
   .exact oP (.inl rfl) hf.ns _ _ hf.ok m
theorem pP (hF:Fd cs (fs++[f])):eH (ar (fs++[f]))=aO f/\ar (fs++[f])=ar fs++aO f++[10]:=by
 have e:ar (fs++[f])=ar fs++aO f++[10]:=by rw[jv,cU,ZM];rfl
 refine⟨?_,e⟩;unfold eH;refine Er e (Er dropLast_concat ?_);cases fs with
 |nil=>exact ku _ (kF (hF f (Zp _ Zn)).1)
 |cons g gs=>
  refine aQ (ot (gs:=g::gs) (λz=>by cases z)) λx hx=>?_
  refine Er hx ?_;rw[ZM];exact kx x _ (kF (hF f (Zp _ Zn)).1)
theorem Ft (n:Nat) (hF:Fd cs (fs++[f])) (hT:Tx (ar (fs++[f]))) (rZ:(aO f).length<=2000080) (cell:Int):∃u,lV n (ar (fs++[f])) 17 cell u/\Tok u/\rd u=none:=by
 obtain⟨Ix,et⟩:=pP hF;have hl:=hT.len;have Bq:=hT.nl;have Bp:=hT.pos;refine oI (cx n hT cell) λa p g ws C=>?_
 have c1:=C.ln;have c2:=C.md;have c3:=C.sg;have c4:=C.sp;have c5:=C.wn;have c6:=C.wm;have q:=ml (way:=17) (by decide);have no:=HE hF;generalize hP:ar (fs++[f])=t at *;have el:=Y2 length et;rw[ZE,ZE]at el;have el:=Zx▸el;have hr:dD .rfl [sT t,sT t]=some (.fz (.int ((t.length:Int)-1-((aO f).length:Int)-1))):=by
  show(if (⟨t.toArray⟩:Str)=⟨t.toArray⟩/\1<=t.toArray.size then some (Rv.fz (.int ((t.toArray.size:Int)-1-((eH t).length:Int)-1))) else none)=_
  exact Er (YV ⟨rfl,by refine Er Zj ?_;exact Bp⟩) (Er Ix (Er Zj rfl))
 have Od:eS (sT t) (.int ((t.length:Int)-1-((aO f).length:Int)-1+1)) .none=some (.fz (sT (aO f++[10]))):=by
  have:=ua t (ar fs).length (Ln [(ar fs).length,t.length,(aO f).length] (.w .x .y) [Gf .y (.p 1 (.a .x .z))] rfl el);refine Er (show((t.length:Int)-1-((aO f).length:Int)-1+1)=((ar fs).length:Int) by exact(Le [t.length,(aO f).length,(ar fs).length] (.j (.p 1 (.s (.s (.s (.n .x) (.c 1)) (.n .y)) (.c 1))) (.n .z)) [Gp .x (.p 1 (.a .z .y))] rfl el)) (Er this ?_);refine Er et ?_;rw[ZM];exact Er List.drop_left rfl
 have ha:op2 .add (sT t) (sT (aO f++[10]))=some (.fz (sT (t++(aO f++[10])))):=bV (by refine Er ZE (Er Zx ?_);show _<=16777216;exact(Ln [t.length,(aO f).length] (.w (.a .x (.p 1 .y)) (.c 16777216)) [Gl .y (.c 2000080),Gl .x (.c 8000400)] rfl rZ hl));refine⟨t++(aO f++[10]),?_,dF (by refine Er ZE (Er ZE (Er Zx ?_));exact(Ln [t.length,(aO f).length] (.w (.a .x (.p 1 .y)) (.c 16400000)) [Gl .y (.c 2000080),Gl .x (.c 8000400)] rfl rZ hl)) ?_,no⟩
 .unfold lV
  exact aJ [.v 0 c1,.v 0 c2,.d 2 c3,.v 6 c4,.v 0 c5,.v 0 c6,.v 9 hr,.v 1 Od,.v 0 ha] rfl
 .refine Er ZK ?_
  have:=Sublist.count_le 10 (List.sublist_append_right (ar fs) (aO f++[10]));rw[<- ZM,<- et]at this;exact(Ln [List.count (10:Nat) t,List.count (10:Nat) (aO f++[(10:Nat)])] (.w (.a .x .y) (.c 899)) [(2,.w .x (.c 10)),Gl .y .x] rfl Bq this)
theorem wV (h:Fk cs f):∃x c,aO f=x++[c]/\c≠10:=by
 have ip:aO f≠ []:=by
  rw[eO];intro z;have:=Y2 length z;rw[ZE,ZD]at this;have:_+(_+1)=0:=this;exact(Lf [(au [(32:Nat)] (qf f)).length,(tx f.snd.snd).length] [Ge (.a .x (.p 1 (.p 1 (.p 1 .y)))) (.c 0)] rfl ‹(au [(32:Nat)] (qf f)).length+(((61:Nat)::(32:Nat)::tx f.snd.snd).length+(1:Nat))=[].length›)
 refine⟨(aO f).dropLast,(aO f).getLast ip,(List.dropLast_concat_getLast ip).symm,λz=>kF h (z▸List.getLast_mem ip)⟩
theorem Fs (n:Nat) (hF:Fd cs (fs++[f])) (hT:Tx (ar (fs++[f]))) (cell:Int):∃u,lV n (ar (fs++[f])) 18 cell u/\Tok u/\rd u=none:=by
 have z:=pP hF;refine fW (wV (hF f (Zp _ Zn)).1) λx c Q=>?_
 have hl:=hT.len;have Bq:=hT.nl;have Bp:=hT.pos;refine oI (cx n hT cell) λa p g ws C=>?_
 have c1:=C.ln;have c2:=C.md;have c3:=C.sg;have c4:=C.sp;have c5:=C.wn;have c6:=C.wm;have q:=ml (way:=18) (by decide);generalize hP:ar (fs++[f])=t at *;have hs:eS (sT t) .none (.int (-1))=some (.fz (sT (ar fs++aO f))):=by
  show some (Rv.fz (sT (cB t 0 (b3 t.length (-1)))))=_
  have:b3 t.length (-1)=(ar fs++aO f).length:=by
   exact Er z.2 (Er (ZE (bs:=[10])) (clipAt_neg _ 1 (Zg _)))
  refine Er this ?_;unfold cB;refine Er ZI ?_;rw[Y9,z.2];exact Er take_left rfl
 have el:=Y2 length z.2;rw[ZE (bs:=[10]),Zx]at el;refine⟨ar fs++aO f,?_,dF (Ln [(ar fs++aO f).length,t.length] (.w .x (.c 16400000)) [Gl .y (.c 8000400),Gf .y (.p 1 .x)] rfl hl el) ?_,HD (x:=ar fs++x) Q.2 (by refine Er Q.1 ?_;rw[ZM])⟩
 .unfold lV
  exact aJ [.v 0 c1,.v 0 c2,.d 2 c3,.v 6 c4,.v 0 c5,.v 0 c6,.v 11 hs] rfl
 .have:=Sublist.count_le 10 (List.sublist_append_left (ar fs++aO f) [10])
  rw[<- z.2]at this;exact(Ln [List.count (10:Nat) (ar fs++aO f),List.count (10:Nat) t] (.w .x (.c 899)) [Gl .y (.c 10),Gl .x .y] rfl Bq this)
theorem Dj:(bl.all λc=>!bl.contains (qW c))=true:=by decide +kernel
theorem GN:∀l:List Nat,(l.map qW).count 10=l.count 10:=by
 intro l
 induction l with
 |nil=>exact rfl
 |cons c l ih=>
  refine Er Zt (Er count_cons (Er count_cons (Er ih ?_)));have:(qW c==10)=(c==10):=by
   unfold qW
   by_cases q:97<=c/\c<=122
   .exact Er (YV q) (Er (show(c==10)=false from beq_eq_false_iff_ne.mpr (λrP=>(Lf [c] [Gl (.c 97) .x,Ge .x (.c 10)] rfl q.1 rP))) (Er (show(c-32==10)=false from beq_eq_false_iff_ne.mpr (λrP=>(Lf [c,c-(32:Nat)] [Gl (.c 97) .x,Ge .y (.c 10),Gf (.p 32 .y) .x] rfl q.1 rP (Za (n:=c) (m:=32) (L1 [c] (.c 32) .x (.c 97) .x rfl q.1))))) rfl))
   .exact Er (YW q) rfl
  exact Er this rfl
theorem wZ (hF:Fd cs fs):∀c∈ar fs,c<128:=λc m=>by
 unfold ar at m;obtain⟨l,hl,m⟩:=List.mem_flatten.mp m;obtain⟨f,hf,rfl⟩:=mem_map.mp hl;have h:=(hF f hf).1
 rcases mem_append.mp m with m|m
 .refine Nat.lt_of_not_le λz=>?_
  rw[eO]at m
  rcases mem_append.mp m with m|m
  .rcases mem_join m with m|⟨x,hx,m⟩
   .exact(Lf [c] [Gl (.c 128) .x,Ge .x (.c 32)] rfl z m)
   .rcases mem_cons.mp hx with rfl|hx
    .exact j0 (.inr (.inr z)) h.nm m
    .obtain⟨y,hy,rfl⟩:=mem_map.mp hx
     exact j0 (.inr (.inr z)) (h.ps y hy) m
  .rcases mem_cons.mp m with m|m
   .exact(Lf [c] [Gl (.c 128) .x,Ge .x (.c 32)] rfl z m)
   rcases mem_cons.mp m with m|m
   .exact(Lf [c] [Gl (.c 128) .x,Ge .x (.c 61)] rfl z m)
   rcases mem_cons.mp m with m|m
   .exact(Lf [c] [Gl (.c 128) .x,Ge .x (.c 32)] rfl z m)
   .exact oP (.inr (.inr z)) h.ns _ _ h.ok m
 .refine Er (List.mem_singleton.mp m) ?_;decide
theorem Fq (n:Nat) {rest:List Fun} (hF:Fd cs (f::rest)) (hT:Tx (ar (f::rest))) (cell:Int):∃u,lV n (ar (f::rest)) 19 cell u/\Tok u/\rd u=none:=by
 refine fW ((j5 (x:=fE f.1) ((hF f Zn).1).nm).hd) λc l Q=>?_
 have e0:∃r,ar (f::rest)=c::r:=by
  rw[cU,eO,dX];exact Er Q.1 (⟨_,rfl⟩)
 have LM:=wZ hF;have hl:=hT.len;have Bq:=hT.nl;refine oI (cx n hT cell) λa p g ws C=>?_
 have c1:=C.ln;have c2:=C.md;have c3:=C.sg;have c4:=C.sp;have c5:=C.wn;have c6:=C.wm;have q:=ml (way:=19) (by decide);generalize hP:ar (f::rest)=t at *;have hu:dD .up [sT t]=some (.fz (sT (t.map qW))):=by
  show(if (t.all λc=>decide (c<128))=true then some (Rv.fz (sT (t.map qW))) else none)=_
  exact Er (YV (all_eq_true.mpr λc m=>Y0 (LM c m))) rfl
 refine⟨t.map qW,?_,dF (by rw[ZB];exact(L1 [t.length] .x (.c 16400000) .x (.c 8000400) rfl hl)) (by rw[GN];exact(L1 [List.count (10:Nat) t] .x (.c 899) .x (.c 10) rfl Bq)),?_⟩
 .unfold lV
  exact aJ [.v 0 c1,.v 0 c2,.d 2 c3,.v 6 c4,.v 0 c5,.v 0 c6,.v 13 hu] rfl
 .refine aQ e0 λr hr=>?_
  refine Er hr (Er Zt ?_);refine HC ?_;have:=all_eq_true.mp Dj c (contains_iff_mem.mp Q.2)
  simpa using this
theorem Fp (n:Nat) (hF:Fd cs fs) (hT:Tx (ar fs)) (cell:Int):∃u,lV n (ar fs) 20 cell u/\Tok u/\rd u=none:=by
 have no:=HB hF;have hl:=hT.len;have Bq:=hT.nl;refine oI (cx n hT cell) λa p g ws C=>?_
 have c1:=C.ln;have c2:=C.md;have c3:=C.sg;have c4:=C.sp;have c5:=C.wn;have c6:=C.wm;have q:=ml (way:=20) (by decide);generalize hP:ar fs=t at *;have ha:op2 .add (sT t) (S [10])=some (.fz (sT (t++[10]))):=bV (b:=[10]) (by show _+1<=16777216;exact(L1 [t.length] (.p 1 .x) (.c 16777216) .x (.c 8000400) rfl hl));have z:([10]:List Nat).count 10=1:=by decide
 refine⟨t++[10],?_,dF (by refine Er ZE ?_;show _+1<=_;exact(L1 [t.length] (.p 1 .x) (.c 16400000) .x (.c 8000400) rfl hl)) (by refine Er ZK ?_;exact(Ln [List.count (10:Nat) t,List.count (10:Nat) [(10:Nat)]] (.w (.a .x .y) (.c 899)) [Gl .x (.c 10),Ge .y (.c 1)] rfl Bq z)),no⟩;unfold lV;exact aJ [.v 0 c1,.v 0 c2,.d 2 c3,.v 6 c4,.v 0 c5,.v 0 c6,.v 15 ha] rfl
theorem xo:(pz.all λu=>decide (u.length<=16400000)&&decide (u.count 10<=899))=true:=by decide +kernel
theorem Hy:op2 .mul (S [40]) (.int 1200)=some (.fz (sT (replicate 1200 40))):=by kernel_rfl
theorem Hx:op2 .mul (S [91]) (.int 1200)=some (.fz (sT (replicate 1200 91))):=by kernel_rfl
theorem Hw:op2 .mul (S [93]) (.int 1200)=some (.fz (sT (replicate 1200 93))):=by kernel_rfl
theorem Hv:op2 .add (S [97,32,61,32]) (sT (replicate 1200 40))=some (.fz (sT ([97,32,61,32]++replicate 1200 40))):=bV (a:=[97,32,61,32]) (by refine Er Zy ?_;decide)
theorem Hu:op2 .add (sT ([97,32,61,32]++replicate 1200 40)) (S [10])=some (.fz (sT ([97,32,61,32]++replicate 1200 40++[10]))):=bV (b:=[10]) (by refine Er ZE (Er Zy ?_);decide)
theorem Hs:op2 .add (S [97,32,61,32]) (sT (replicate 1200 91))=some (.fz (sT ([97,32,61,32]++replicate 1200 91))):=bV (a:=[97,32,61,32]) (by refine Er Zy ?_;decide)
theorem Hr:op2 .add (sT ([97,32,61,32]++replicate 1200 91)) (sT (replicate 1200 93))=some (.fz (sT ([97,32,61,32]++replicate 1200 91++replicate 1200 93))):=bV (by refine Er ZE ?_;rw[Zy];refine Er Zy ?_;decide)
theorem Ho:op2 .add (sT ([97,32,61,32]++replicate 1200 91++replicate 1200 93)) (S [10])=some (.fz (sT ([97,32,61,32]++replicate 1200 91++replicate 1200 93++[10]))):=bV (b:=[10]) (by refine Er ZE ?_;refine Er ZE ?_;rw[Zy,Zy];decide)
noncomputable abbrev tA:List D:=[S [],S [10],S [97,32,61,32,10],S [61,32,49,10],S [97,32,61,32,49],S [97,32,61,32,45,48,10],S [97,32,61,32,40,98,41,10],S [97,32,61,32,91,97,93,10],S [97,32,98,32,61,32,40,91,98,93,41,10],S [97,32,61,32,49,32,10]]
theorem Hn (x y:D):op2 .add (.list tA) (.list [x,y])=some (.own (.list (tA++[x,y]))):=mZ (x:=tA) (z:=[x,y]) (by show 10+2<=_;decide)
theorem Fo (n:Nat) (hT:Tx t) (way cell:Int) (hw:21<=way):∃u,lV n t way cell u/\Tok u/\rd u=none:=by
 refine oI (cx n hT cell) λa p g ws C=>?_
 have c1:=C.ln;have c2:=C.md;have c3:=C.sg;have c4:=C.sp;have c5:=C.wn;have c6:=C.wm;obtain⟨h5,h9,h13,e13,e14,e15⟩:=ml (way:=way) (Li [way] (.i (.c 16) .x) [Gi (.c 21) .x] rfl hw);have OY:ag .eq (.int way) (.int 17)=some false:=by rw[z8,Y1 (by exact(λHQ=>(dW [] [way] [Gi (.c 21) .x,Gj .x (.c 17)] rfl hw HQ)))]
 have OX:ag .eq (.int way) (.int 18)=some false:=by rw[z8,Y1 (by exact(λxN=>(dW [] [way] [Gi (.c 21) .x,Gj .x (.c 18)] rfl hw xN)))]
 have OW:ag .eq (.int way) (.int 19)=some false:=by rw[z8,Y1 (by exact(λHP=>(dW [] [way] [Gi (.c 21) .x,Gj .x (.c 19)] rfl hw HP)))]
 have OV:ag .eq (.int way) (.int 20)=some false:=by rw[z8,Y1 (by exact(λHO=>(dW [] [way] [Gi (.c 21) .x,Gj .x (.c 20)] rfl hw HO)))]
 obtain⟨k,hk⟩:∃k:Nat,cell.fmod 12=k:=⟨(cell.fmod 12).toNat,by exact((ZQ (a:=cell.fmod (12:Int)) (Li [cell.fmod (12:Int)] (.i (.c 0) .x) [Gi (.c 0) .x] rfl ((fm cell 12 (by decide))).1)).symm)⟩
 have l7:k<pz.length:=by show k<12;exact(d7 [k] [cell.fmod (12:Int)] 1 (.w (.p 1 .x) (.c 12)) [Gi (.p 1 .x) (.c 12),Gk .x (.n .x)] rfl ((fm cell 12 (by decide))).2 hk)
 have hx:fU (.list (tA++[sT ([97,32,61,32]++replicate 1200 40++[10]),sT ([97,32,61,32]++replicate 1200 91++replicate 1200 93++[10])])) (.int (cell.fmod 12))=some (sT pz[k]):=by
  refine Er hk ?_;show aW (pz.map sT) (k:Int)=_
  unfold aW;rw[YV (by exact(Ln [k] (.i (.c 0) (.n .x)) [] rfl)),ZR];refine Er (ZF) ?_;refine Er (ZG l7) ?_;rfl
 have hn:=all_eq_true.mp HA _ (getElem_mem l7);have ht:=all_eq_true.mp xo _ (getElem_mem l7);rw[Z7]at ht;refine⟨pz[k],?_,dF (YU ht.1) (YU ht.2),?_⟩
 .have o1:=Hy;have o2:=Hx;have o3:=Hw;have o4:=Hv;have o5:=Hu;have o6:=Hs;have o7:=Hr;have o8:=Ho
  generalize pz[k]=u at *;generalize replicate 1200 40=r1 at *;generalize replicate 1200 91=r2 at *;generalize replicate 1200 93=r3 at *;unfold lV;exact aJ [.v 0 c1,.v 0 c2,.d 2 c3,.b 0 h5,.b 1 h9,.b 1 h13,.v 1 c4,.v 0 c5,.v 0 c6,.b 0 e13,.b 1 e14,.b 1 e15,.t 1 ((Y1 (λpH=>(dW [] [way] [Gi (.c 21) .x,Gj .x (.c 16)] rfl hw pH)):decide (way=16)=false)),.b 0 OY,.b 1 OX,.b 1 OW,.b 1 OV,.v 1 o1,.v 0 o4,.v 0 o5,.v 0 o2,.v 0 o6,.v 0 o3,.v 0 o7,.v 0 o8,.v 0 ((Hn (sT ([97,32,61,32]++replicate 1200 40++[10])) (sT ([97,32,61,32]++replicate 1200 91++replicate 1200 93++[10])))),.d 1 hx] rfl
 .cases e:rd pz[k]with
  |none=>rfl
  |some gs=>have hn:=e▸hn;cases hn
theorem Fc {f:Str} (h:cnt (iN hs) f=some k):∃g∈hs,g.nm=f/\k=g.ps.length:=by
 unfold cnt at h;obtain⟨p,q,rfl⟩:=Z9 h;have hp:=List.find?_some q;refine aQ (mem_map.mp (List.mem_of_find?_eq_some q)) λg Q=>?_
 exact⟨g,Q.1,by exact Er (YU hp).symm (Er Q.2.symm rfl),by exact Er Q.2.symm rfl⟩
theorem yw (hh:eF l hs):∀g k,cnt (iN hs) g=some k->aH g=true/\k<=6:=λg k e=>by
 obtain⟨x,hx,rfl,rfl⟩:=Fc e;exact⟨hh.nm.nm _ (hh.mem _ (mem_map.mpr ⟨x,hx,rfl⟩)),(hh.ok x hx).le⟩
theorem AN (hh:eF l hs) (hp:jX hs fs):∀f∈fs,(Fk (iN hs) f/\fG f.2.2<50)/\(aO f).length<=2000080:=λf hf=>by
 refine aQ (hp.get hf) λg q=>?_
 have F:=hp.ok f hf;have nm:aH f.1=true:=by exact Er q.2.1 (hh.nm.nm _ (hh.mem _ (mem_map.mpr ⟨g,q.1,rfl⟩)))
 have le:f.2.1.length<=6:=by exact Er q.2.2 ((hh.ok g q.1).le)
 have ps:∀x∈f.2.1,aH x=true:=λx hx=>hh.nm.nm x ((hh.ok g q.1).mem x (by refine Er q.2.2.symm ?_;exact hx))
 have hl:=F.ln;have e:Wd 8=1574640:=by decide
 rw[e]at hl;have sm:=uI nm le ps ⟨ps,λg k e=>((yw hh) g k e).2,λg k e=>((yw hh) g k e).1⟩ (F.ok 20 (by decide)) (L1 [ln f.snd.snd] .x (.c 2000000) .x (.c 1574640) rfl hl);exact⟨⟨⟨nm,le,ps,(yw hh),(F.ok 20 (by decide)),by exact(L1 [fG f.snd.snd] .x (.c 50) .x (.c 5) rfl F.dp),by exact(L1 [(aO f).length] .x (.c 16500000) .x (.c 2000080) rfl sm)⟩,by exact(L1 [fG f.snd.snd] (.p 1 .x) (.c 50) .x (.c 5) rfl F.dp)⟩,sm⟩
theorem pj:∀ {fs:List Fun},(∀f∈fs,(aO f).length<=2000080)->(ar fs).length<=2000081*fs.length:=by
 intro fs h
 induction fs with
 |nil=>exact Zg _
 |cons f fs ih=>
  rw[cU,ZE];exact Er ZD (Er ZD (Ln [(aO f).length,(ar fs).length,fs.length] (.w (.a .x (.p 1 .y)) (.m 2000081 (.p 1 .z))) [Gl .x (.c 2000080),Gl .y (.m 2000081 .z)] rfl (h f Zn) (ih (hG h))))
noncomputable abbrev Ms:List St:=[.ret (.tup [.lit (.bool true),.call 20 [aa 0]])]
theorem pM (n:Nat) (hT:Tok t) (h:rd t=some fs):cF P (n+77) false 40 [.fz (sT t)]=some (.ok (.fz (.tuple [.bool true,dy fs])),[]):=by
 have hr:=pi n t hT;rw[h]at hr;show EW [.fz (sT t)] (du ⟨P.glob,cF P (n+76),[],false⟩ gO.body [.fz (sT t),.no,.no])=_
 unfold gO;rw[hM,om,YW Z6,(Mp [.c 0 hr] rfl :du ⟨P.glob,cF P (n+76),[],false⟩ Ms [.fz (sT t),.no,.no]=some (.ok (.ret (.fz (.tuple [.bool true,dy fs]))),[.fz (sT t),.no,.no])),td]
 rfl
theorem kR (n:Nat) (hT:Tok t) (h:rd t=none):cF P (n+77) false 40 [.fz (sT t)]=some (.ok (.fz (.tuple [.bool false,.str aB])),[]):=by
 have hr:=pi n t hT;rw[h]at hr;show EW [.fz (sT t)] (du ⟨P.glob,cF P (n+76),[],false⟩ gO.body [.fz (sT t),.no,.no])=_
 unfold gO;rw[hM,om,YW Z6,(Mp [.c 0 hr] rfl :du ⟨P.glob,cF P (n+76),[],false⟩ Ms [.fz (sT t),.no,.no]=some (.error aB,[.fz (sT t),.no,.no])),oQ];refine Er (YV ⟨by decide +kernel,by show ¬([]:List Nat).contains 1=true;decide⟩) ?_
 kernel_rfl
mutual
theorem qA:∀d:D,noDict d=true->eqv d d=true
 |.none,_=>rfl
 |.bool b,_=>by simp[eqv]
 |.int i,_=>by simp[eqv]
 |.str x,_=>by simp[eqv]
 |.list xs,h=>by rw[eqv];exact jD xs h
 |.tuple xs,h=>by rw[eqv];exact jD xs h
 |.dict _,h=>by cases h
theorem jD:∀ds:List D,noDicts ds=true->eqvAll ds ds=true
 |[],_=>rfl
 |d::ds,h=>by
  have h:(noDict d&&noDicts ds)=true:=h;rw[Z7]at h;rw[eqvAll];refine Er (qA d h.1) ?_;refine Er (jD ds h.2) ?_;rfl
end
structure Fl (k:Nat) (d:D):Prop where
 nd:noDict d=true
 dp:d.depth<=k
structure mj (k:Nat) (ds:List D):Prop where
 nd:noDicts ds=true
 dp:depthAll ds<=k
theorem mj.nil (k:Nat):mj k []:=⟨rfl,Y8 _⟩
theorem mj.cons {k:Nat} {d:D} {ds:List D} (h:Fl k d) (hs:mj k ds):mj k (d::ds):=⟨by show(noDict d&&noDicts ds)=true;refine Er h.nd (Er hs.nd ?_);rfl,Nat.max_le.mpr ⟨h.dp,hs.dp⟩⟩
theorem mj.tup {ds:List D} (h:mj k ds):Fl (k+1) (.tuple ds):=⟨h.nd,by have:=h.dp;show depthAll ds+1<=_;exact(L1 [depthAll ds,k] (.p 1 .x) (.p 1 .y) .x .y rfl this)⟩
theorem Fl.mono (h:Fl j d) (q:j<=k):Fl k d:=⟨h.nd,Zf h.dp q⟩
theorem Fl.str (k:Nat) (x:Str):Fl k (.str x):=⟨rfl,Y8 _⟩
theorem mj.of:∀ {ds:List D},(∀d∈ds,Fl k d)->mj k ds:=by
 intro ds h
 induction ds with
 |nil=>exact .nil k
 |cons d ds ih=>exact .cons (h d Zn) (ih (hG h))
mutual
theorem tN:∀d:D,good d=true->Fl (dep d) d
 |.int i,_=>⟨rfl,Y8 _⟩
 |.tuple ds,h=>(qh ds h).tup
 |.none,h|.bool _,h|.str _,h|.list _,h|.dict _,h=>by cases h
theorem qh:∀ds:List D,cI ds=true->mj (bK ds) ds
 |[],_=>.nil _
 |d::ds,h=>by
  have h:(good d&&cI ds)=true:=h;rw[Z7]at h;have h1:=tN d h.1;have h2:=qh ds h.2;exact .cons (h1.mono (le_max_left _ _)) ⟨h2.nd,Zf h2.dp (le_max_right _ _)⟩
end
mutual
theorem zd {ns:List Str} {cs:List (Str×Nat)}:∀(t:T) (r:Nat),dJ ns cs r t=true->fG t<=5->Fl (2*r+5) (cM t)
 |t,0,h,_=>by cases t<;>cases h
 |.val d,r+1,h,hd=>by
  rw[cM];exact((mj.cons (Fl.str _ _) (.cons ((tN d (j7 h)).mono hd) (.nil 5))).tup).mono (L0 [r] (.p 1 (.c 5)) (.p 5 (.m 2 (.p 1 .x))) rfl)
 |.nam x,r+1,h,_=>by rw[cM];exact((mj.cons (Fl.str _ _) (.cons (Fl.str _ _) (.nil 0))).tup).mono (L0 [r] (.p 1 (.c 0)) (.p 5 (.m 2 (.p 1 .x))) rfl)
 |.ref x,r+1,h,_=>by rw[cM];exact((mj.cons (Fl.str _ _) (.cons (Fl.str _ _) (.nil 0))).tup).mono (L0 [r] (.p 1 (.c 0)) (.p 5 (.m 2 (.p 1 .x))) rfl)
 |.iff ps,r+1,h,hd=>by
  have h:(decide (ps.length=3)&&ps.all (dJ ns cs r))=true:=h;rw[Z7,ZN]at h;rw[cM];exact((mj.cons (Fl.str _ _) (kc ps r h.2 hd)).tup).mono (L0 [r] (.p 1 (.p 5 (.m 2 .x))) (.p 5 (.m 2 (.p 1 .x))) rfl)
 |.doo op ps,r+1,h,hd=>by
  have h:(cP op&&(br op ps.length&&ps.all (dJ ns cs r)))=true:=h;rw[Z7,Z7,ZN]at h;rw[cM];exact((mj.cons (Fl.str _ _) (.cons (Fl.str _ _) (.cons (kc ps r h.2.2 hd).tup (.nil _)))).tup).mono (L0 [r] (.p 1 (.p 1 (.p 5 (.m 2 .x)))) (.p 5 (.m 2 (.p 1 .x))) rfl)
 |.call f ps,r+1,h,hd=>by
  have h:(decide (cnt cs f=some ps.length)&&ps.all (dJ ns cs r))=true:=h;rw[Z7,ZN]at h;rw[cM];exact((mj.cons (Fl.str _ _) (.cons (Fl.str _ _) (.cons (kc ps r h.2 hd).tup (.nil _)))).tup).mono (L0 [r] (.p 1 (.p 1 (.p 5 (.m 2 .x)))) (.p 5 (.m 2 (.p 1 .x))) rfl)
 |.odd _,r+1,h,_=>by cases h
theorem kc {ns:List Str} {cs:List (Str×Nat)}:∀(ts:List T) (r:Nat),(∀t∈ts,dJ ns cs r t=true)->eh ts<=5->mj (2*r+5) (bj ts)
 |[],_,_,_=>.nil _
 |t::ts,r,h,hd=>by
  exact .cons (zd t r (h t Zn) (Ln [fG t,max (fG t) (eh ts)] (.w .x (.c 5)) [Gl .y (.c 5),Gl .x .y] rfl hd (le_max_left (fG t) (eh ts)))) (kc ts r (hG h) (Ln [eh ts,max (fG t) (eh ts)] (.w .x (.c 5)) [Gl .y (.c 5),Gl .x .y] rfl hd (le_max_right (fG t) (eh ts))))
end
theorem AP (h:∀f∈fs,dJ f.2.1 cs 20 f.2.2=true/\fG f.2.2<=5):mP (.tuple [.bool true,dy fs]) (.tuple [.bool true,dy fs])=some true:=by
 have hP:Fl 47 (dy fs):=(mj.of λd hd=>by
  obtain⟨f,hf,rfl⟩:=mem_map.mp hd;exact(mj.cons (Fl.str _ _) (.cons (((mj.of (k:=0) λd hd=>by obtain⟨x,_,rfl⟩:=mem_map.mp hd;exact Fl.str _ _).tup).mono (by decide)) (.cons (zd f.2.2 20 (h f hf).1 (h f hf).2) (.nil 45)))).tup).tup
 have hA:Fl 48 (.tuple [.bool true,dy fs]):=(mj.cons ⟨rfl,Y8 _⟩ (.cons hP (.nil 47))).tup;show(if qB (.tuple [.bool true,dy fs]) (.tuple [.bool true,dy fs])=true then some (eqv (.tuple [.bool true,dy fs]) (.tuple [.bool true,dy fs])) else none)=_
 rw[YV];exact Er (qA _ hA.nd) rfl;unfold qB;refine Er hA.nd (Er (Y0 (by exact(Ln [min (tuple [PyData.bool true,dy fs]).depth (tuple [PyData.bool true,dy fs]).depth,(tuple [PyData.bool true,dy fs]).depth] (.w .x (.c 64)) [Gl .y (.c 48),Ge .x .y] rfl hA.dp (Zd (a:=(tuple [PyData.bool true,dy fs]).depth) (b:=(tuple [PyData.bool true,dy fs]).depth) (L0 [(tuple [PyData.bool true,dy fs]).depth] .x .x rfl))))) ?_);rfl
theorem B0 (n:Nat) (hF:Fd cs fs) (hR:∀f∈fs,(aO f).length<=2000080) (ip:fs≠ []) (hT:Tx (ar fs)) (way cell:Int) (hw:0<=way/\way<24):∃u,lV n (ar fs) way cell u/\Tok u/\(15<way->rd u=none):=by
 by_cases q1:way<13
 .refine aQ (Fj n hT way cell ⟨hw.1,q1⟩) λu q4=>?_
  exact⟨u,q4.1,q4.2,λz=>absurd z (λMH=>(dW [] [way] [Gi (.p 1 .x) (.c 13),Gi (.p 1 (.c 15)) .x] rfl q1 z))⟩
 by_cases q2:way<=15
 .refine aQ (BZ n hT way cell ⟨by exact(Li [way] (.i (.c 13) .x) [Gi (.c 13) .x] rfl (Int.not_lt.mp q1)),q2⟩) λu q0=>?_
  exact⟨u,q0.1,q0.2,λz=>absurd z (λkO=>(dW [] [way] [Gi .x (.c 15),Gi (.p 1 (.c 15)) .x] rfl q2 z))⟩
 by_cases q3:21<=way
 .refine aQ (Fo n hT way cell q3) λu J=>?_
  exact⟨u,J.1,J.2.1,λac=>J.2.2⟩
 by_cases Mw:way=20
 .subst Mw
  exact aQ (Fp n hF hT cell) λu j=>(⟨u,j.1,j.2.1,λac=>j.2.2⟩)
 have mJ:∃f r,fs=f::r:=by
  cases fs with
  |nil=>exact absurd rfl ip
  |cons f r=>exact⟨f,r,rfl⟩
 by_cases Mz:way=16
 .subst Mz
  refine fW mJ λf r mJ=>?_;subst mJ
  exact aQ (Fu n hF hT cell) λu Z=>(⟨u,Z.1,Z.2.1,λac=>Z.2.2⟩)
 by_cases Mx:way=19
 .subst Mx
  refine fW mJ λf r mJ=>?_;subst mJ
  exact aQ (Fq n hF hT cell) λu U=>(⟨u,U.1,U.2.1,λac=>U.2.2⟩)
 refine fW (⟨fs.dropLast,fs.getLast ip,(List.dropLast_concat_getLast ip).symm⟩:∃r f,fs=r++[f]) λr f q5=>?_;subst q5
 by_cases My:way=17
 .subst My
  exact aQ (Ft n hF hT (hR f (Zp _ Zn)) cell) λu Q=>(⟨u,Q.1,Q.2.1,λac=>Q.2.2⟩)
 .obtain rfl:way=18:=by exact(Int.le_antisymm (Y4 (ZT Mw) (λeZ=>(Y4 (ZT Mx) (λeY=>(Li [way] (.i .x (.c 18)) [Gi (.p 1 .x) (.c 19)] rfl eY)) (λeY=>(d7 [] [way] 0 (.i .x (.c 18)) [Gi (.p 1 .x) (.c 20),Gi (.p 1 (.c 19)) .x] rfl eZ eY)))) (λeZ=>(d7 [] [way] 0 (.i .x (.c 18)) [Gi (.p 1 .x) (.c 21),Gi (.p 1 (.c 20)) .x] rfl (Int.not_le.mp q3) eZ))) (Y4 (ZT Mz) (λeZ=>(d7 [] [way] 0 (.i (.c 18) .x) [Gi (.p 1 (.c 15)) .x,Gi (.p 1 .x) (.c 16)] rfl (Int.not_le.mp q2) eZ)) (λeZ=>(Y4 (ZT My) (λeY=>(d7 [] [way] 0 (.i (.c 18) .x) [Gi (.p 1 (.c 16)) .x,Gi (.p 1 .x) (.c 17)] rfl eZ eY)) (λeY=>(Li [way] (.i (.c 18) .x) [Gi (.p 1 (.c 17)) .x] rfl eY))))))
  exact aQ (Fs n hF hT cell) λu q=>(⟨u,q.1,q.2.1,λac=>q.2.2⟩)
theorem G9 (hT:Tok t) (h:rd t=some gs):(∀g∈gs,Fk (gs.map ct) g)/\gs.length<=1000/\(∀g∈gs,fG g.2.2<=50)/\dK gs=true/\ar gs=t:=by
 have R:=gn h;have hl:=hT.len;have hr:=hT.rows;have F:=tV R.fs;have st:=gX 10 t;obtain⟨X,l,e⟩:∃X l,ak 10 t=X++[l]:=by
  refine aQ (List.getLast?_eq_some_iff.mp R.last) λX hX=>?_;exact⟨X,[],hX⟩
 rw[e]at F;have F:=dropLast_concat▸F;rw[e,cc]at st;rw[e,ZE]at hr;exact⟨CN (dP R.good) F.ok (Ln [bf X,t.length,bf [l]] (.w (.p 3 .x) (.c 16500000)) [Gl .y (.c 16400000),Ge (.a .x .z) (.p 1 .y)] rfl hl st),by exact(Ln [gs.length,X.length] (.w .x (.c 1000)) [Gl (.a .y (.p 1 (.c 0))) (.c 900),Ge .x .y] rfl hr F.len),λg hg=>(F.ok g hg).dp,R.good,R.txt⟩
theorem law_ok (n:Nat) (xs:List Int):cF P (n+78) false 41 [.fz (.list (xs.map .int))]=JW true:=by
 obtain⟨l,hs,r,hr,hh,ho⟩:=yD (n+75) xs;obtain⟨fs,hf,hp⟩:=ru (n+56) xs hh;have K:=AN hh hp;have hF:Fd (iN hs) fs:=λf hf=>(K f hf).1
 have hg:=uO hh hp;have h4:fs.length<=4:=by exact Er hp.len hh.le
 have Bp:1<=(ar fs).length:=by
  obtain⟨x,hx⟩:=ot ((dP hg).ne);refine Er hx (Er ZE ?_);show 1<=_+1;exact(L0 [x.length] (.c 1) (.p 1 .x) rfl)
 have hT:Tx (ar fs):=⟨by exact(Ln [(ar fs).length,fs.length] (.w .x (.c 8000400)) [Gl .x (.m 2000081 .y),(2000081,.w .y (.c 4))] rfl (pj λf hf=>(K f hf).2) h4),Bp,by exact(Ln [List.count (10:Nat) (ar fs),fs.length] (.w .x (.c 10)) [Gl .y (.c 4),Ge .x .y] rfl h4 (A0 λf hf=>(hF f hf).1))⟩
 have ht:=tf (n+3) (λf hf=>(hF f hf).1) (Ln [(ar fs).length,fs.length] (.w .x (.c 16777216)) [Gl .x (.m 2000081 .y),(2000081,.w .y (.c 4))] rfl (pj λf hf=>(K f hf).2) h4);have r1:=pM n hT.tok (G0 hF hg);have IV:=AP λf hf=>⟨(hF f hf).1.ok,(hp.ok f hf).dp⟩
 have JZ:ag .ne (.tuple [.bool true,dy fs]) (.tuple [.bool true,dy fs])=some false:=by
  show(mP _ _).map (!·)=_
  refine Er (show mP (.tuple [.bool true,dy fs]) (.tuple [.bool true,dy fs])=some true from IV) ?_;rfl
 obtain⟨FG,CB⟩:=cell (n+76) xs 15 (by decide);obtain⟨O3,J1⟩:=cell (n+76) xs 16 (by decide);obtain⟨u,Z⟩:=B0 (n+76) hF (λf hf=>(K f hf).2) ((dP hg).ne) hT (FG.fmod 24) O3 ⟨(fm FG 24 (by decide)).1,(fm FG 24 (by decide)).2⟩;have hu:=Z.1;have EN:=Z.2.1;have K3:=Z.2.2;unfold lV at hu;have gt:ag .gt (.int (FG.fmod 24)) (.int 15)=some (decide (15<FG.fmod 24)):=gh _ _;have JY:=gR u (ar fs);cases e:rd u with
 |none=>
  have nn:ag .ne (.str aB) (S [78,111,84,101,120,116])=some false:=by kernel_rfl
  by_cases q:15<FG.fmod 24
  .rw[Y0 q]at gt
   cases q2:decide (u=ar fs) with
   |true=>rw[q2]at JY;rcases ho with rfl|rfl<;>exact aJ [.c 0 hr,.c 0 hf,.c 0 ht,.c 0 CB,.c 1 J1,.c 0 hu,.c 0 r1,.b 0 JZ,.c 1 ((kR n EN e)),.c 5 CB,.b 1 gt,.b 1 JY,.c 2 r1,.b 0 IV] rfl
   |false=>rw[q2]at JY;rcases ho with rfl|rfl<;>exact aJ [.c 0 hr,.c 0 hf,.c 0 ht,.c 0 CB,.c 1 J1,.c 0 hu,.c 0 r1,.b 0 JZ,.c 1 ((kR n EN e)),.c 5 CB,.b 1 gt,.b 1 JY,.c 3 r1,.b 0 IV] rfl
  .have gt:=(Y1 q)▸gt
   rcases ho with rfl|rfl<;>exact aJ [.c 0 hr,.c 0 hf,.c 0 ht,.c 0 CB,.c 1 J1,.c 0 hu,.c 0 r1,.b 0 JZ,.c 1 ((kR n EN e)),.c 5 CB,.b 1 gt,.c 2 r1,.b 0 IV] rfl
 |some gs=>
  obtain⟨gk,gl,Q⟩:=G9 EN e;have gd:=Q.1;have gg:=Q.2.1;have LN:=Q.2.2;have g1:=kZ (n+53) gs (λf hf=>by have:=gd f hf;exact(L1 [fG f.snd.snd,n] (.p 1 .x) (.p 53 .y) .x (.c 50) rfl this)) gl;rw[gg]at g1;have g2:=tf (n+3) gk (by refine Er LN ?_;exact(L1 [u.length] .x (.c 16777216) .x (.c 16400000) rfl EN.len));have g3:=o0 (n+4) gk gl (by refine Er LN ?_;exact(L1 [u.length] .x (.c 16777216) .x (.c 16400000) rfl EN.len));have n4:ag .ne (sT (ar gs)) (sT u)=some false:=by rw[gR];refine Er (Y0 LN) ?_;rfl
  have q:¬15<FG.fmod 24:=λz=>by have e:=(K3 z)▸e;exact ah e
  rw[Y1 q]at gt
  rcases ho with rfl|rfl<;>exact aJ [.c 0 hr,.c 0 hf,.c 0 ht,.c 0 CB,.c 1 J1,.c 0 hu,.c 0 r1,.b 0 JZ,.c 1 ((pM n EN e)),.c 3 g1,.c 3 g2,.b 0 n4,.c 2 g3,.b 0 n4,.c 1 CB,.b 1 gt,.c 2 r1,.b 0 IV] rfl
end Lq
end
open PySem PySem.W PyProof.Rows Mv
set_option maxHeartbeats 8000000
namespace Lq
theorem xX {mg mb:Str->Option Value} {K:Frag} (hg:∀x,mg x=iq K x):∀ {cs:List Str},(cs.all λx=>(iq K x).isSome)=true->gj mg mb cs (cs.map (FQ K))
 |[],_=>trivial
 |x::cs,h=>by
  rw[ZO,Z7]at h;obtain⟨v,hv⟩:=isSome_iff_exists.mp h.1;refine⟨.inl ?_,xX hg h.2⟩;rw[hg,hv];unfold FQ;rw[hv];rfl
theorem defAt:(recsOf Hq.view)[41]? = some Hq.dk.1:=by kernel_rfl
theorem EP (P:Params) :iq (Hq.K P) (Str.ofString "WORDS") = some (.ref 150):=by kernel_rfl
theorem Ew (P:Params) :∃o,(Hq.K P).lookup 150 = some o∧o = {cls:=.type "tuple",data:=.seq [Value.str ⟨[78,111,78,117,109,98,101,114].toArray⟩ 379,Value.str ⟨[78,111,76,105,115,116].toArray⟩ 380,Value.str ⟨[78,111,70,105,114,115,116].toArray⟩ 381,Value.str ⟨[78,111,68,111,119,110].toArray⟩ 382,Value.str ⟨[66,121,78,111,117,103,104,116].toArray⟩ 383,Value.str ⟨[84,111,111,71,114,101,97,116].toArray⟩ 384].toArray}:=⟨_,rfl,by kernel_rfl⟩
theorem EQ (P:Params) :iq (Hq.K P) (Str.ofString "PAIRS") = some (.ref 151):=by kernel_rfl
theorem kPairs (P:Params) :∃o,(Hq.K P).lookup 151 = some o∧o = {cls:=.type "tuple",data:=.seq [Value.str ⟨[112,108,117,115].toArray⟩ 386,Value.str ⟨[109,105,110,117,115].toArray⟩ 387,Value.str ⟨[116,105,109,101,115].toArray⟩ 388,Value.str ⟨[111,118,101,114].toArray⟩ 389,Value.str ⟨[108,101,115,115].toArray⟩ 390,Value.str ⟨[115,97,109,101].toArray⟩ 391,Value.str ⟨[106,111,105,110].toArray⟩ 392].toArray}:=⟨_,rfl,by kernel_rfl⟩
theorem yM (P:Params) :iq (Hq.K P) (Str.ofString "SINGLES") = some (.ref 152):=by kernel_rfl
theorem yg (P:Params) :∃o,(Hq.K P).lookup 152 = some o∧o = {cls:=.type "tuple",data:=.seq [Value.str ⟨[100,111,119,110].toArray⟩ 394,Value.str ⟨[102,105,114,115,116].toArray⟩ 395,Value.str ⟨[114,101,115,116].toArray⟩ 396,Value.str ⟨[101,109,112,116,121].toArray⟩ 397].toArray}:=⟨_,rfl,by kernel_rfl⟩
theorem GK:valOf Hq.view (Str.ofString "HEAVIEST") = some (.int 50):=by kernel_rfl
theorem GH:valOf Hq.view (Str.ofString "MOST_LISTED") = some (.int 8):=by kernel_rfl
theorem GJ:valOf Hq.view (Str.ofString "LONGEST") = some (.int 8):=by kernel_rfl
theorem GM:valOf Hq.view (Str.ofString "DEEPEST") = some (.int 20):=by kernel_rfl
theorem GI:valOf Hq.view (Str.ofString "MOST_PARAMETERS") = some (.int 6):=by kernel_rfl
theorem GL:valOf Hq.view (Str.ofString "MOST_FIGURES") = some (.int 18):=by kernel_rfl
theorem Kp:valOf Hq.view (Str.ofString "LETTERS") = some dc:=by kernel_rfl
theorem Kq:valOf Hq.view (Str.ofString "FIGURES") = some jB:=by kernel_rfl
section
variable [Hp] {loose:List Str} {pJ:ExcName->Option Value}
theorem askOk (KX:(Hq.K w.params).In B) (oG:∀x,mg x = iq (Hq.K w.params) x) (Ok:∀x:Str,x≠"__name__"→mb x = bootBuiltins x) :∀c yes no,sb.lookup c = some (yes,no)→ ∃V,(mg c = some V∨(mg c = none∧mb c = some V))∧ ∀k C,mg k = some (.ref C)→(k∈yes→fq B C V true)∧(k∈no→fq B C V false):=by
 intro c yes no hl;have:=all_eq_true.mp (LU w.params) _ (kU hl);simp only[Z7,Z4,YZ]at this;obtain⟨h1,h2⟩:=this;refine⟨FQ (Hq.K w.params) c,?_,λk C hk=>BN KX h1 k C (by rw[<- oG];exact hk)⟩;cases q:iq (Hq.K w.params) c with
 |some v=>left;rw[oG,q];unfold FQ;rw[q];rfl
 |none=>
  rcases h2 with h2|h2
  .rw[q]at h2;cases h2
  .right
   refine⟨by rw[oG,q],?_⟩;rw[Ok c (by rw[h2];decide),h2,FH,<- h2];unfold FQ;rw[q];rfl
theorem askTOk (KX:(Hq.K w.params).In B) (oG:∀x,mg x=iq (Hq.K w.params) x):∀cs yes no,sbt.lookup cs=some (yes,no)-> ∃Vs,gj mg mb cs Vs/\ ∀k C,mg k=some (.ref C)->(k∈yes->dO B C Vs true)/\(k∈no->dO B C Vs false):=by
 intro cs yes no hl;have:=all_eq_true.mp (LR w.params) _ (kU hl);rw[Z7]at this;exact⟨_,xX oG this.2,λk C hk=>BM KX this.1 k C (by rw[<- oG];exact hk)⟩
theorem glsOk (KX:(Hq.K w.params).In B) (oG:∀x,mg x=iq (Hq.K w.params) x) (T:Top Hq.view loose pJ mg mb B) (V:LooseAre Hq.lv mg B):∀(k:Nat) (x:Str) (d:D),gls[k]? = some x->P.glob[k]? = some d-> ∃v,mg x=some v/\ ∀(h':Heap) (Z:Addr->Prop),(∀a o,B.get? a=some o->h'.get? a=some o)->(∀a o,B.get? a=some o->Z a)->bS h' Z v d:=by
 intro k x d hk di
 match k,hk,di with
 |0,hk,di=>
  cases hk;cases di;exact u8 V (.head _)
 |1,hk,di=>
  cases hk;cases di;exact const_int T GK
 |2,hk,di=>
  cases hk;cases di;refine⟨.ref 150,(oG _).trans (EP w.params),λh' Z hk hz=>?_⟩;obtain⟨o,e,q⟩:=Ew w.params;have e:=KX _ _ e;rw[q]at e;exact .tuple (hz _ _ e) (hk _ _ e) (by decide) ((.cons (.str _ _ (by kernel_rfl) (by decide)) (.cons (.str _ _ (by kernel_rfl) (by decide)) (.cons (.str _ _ (by kernel_rfl) (by decide)) (.cons (.str _ _ (by kernel_rfl) (by decide)) (.cons (.str _ _ (by kernel_rfl) (by decide)) (.cons (.str _ _ (by kernel_rfl) (by decide)) .nil)))))))
 |3,hk,di=>
  cases hk;cases di;refine⟨.ref 151,(oG _).trans (EQ w.params),λh' Z hk hz=>?_⟩;obtain⟨o,e,q⟩:=kPairs w.params;have e:=KX _ _ e;rw[q]at e;exact .tuple (hz _ _ e) (hk _ _ e) (by decide) ((.cons (.str _ _ (by kernel_rfl) (by decide)) (.cons (.str _ _ (by kernel_rfl) (by decide)) (.cons (.str _ _ (by kernel_rfl) (by decide)) (.cons (.str _ _ (by kernel_rfl) (by decide)) (.cons (.str _ _ (by kernel_rfl) (by decide)) (.cons (.str _ _ (by kernel_rfl) (by decide)) (.cons (.str _ _ (by kernel_rfl) (by decide)) .nil))))))))
 |4,hk,di=>
  cases hk;cases di;refine⟨.ref 152,(oG _).trans (yM w.params),λh' Z hk hz=>?_⟩;obtain⟨o,e,q⟩:=yg w.params;have e:=KX _ _ e;rw[q]at e;exact .tuple (hz _ _ e) (hk _ _ e) (by decide) ((.cons (.str _ _ (by kernel_rfl) (by decide)) (.cons (.str _ _ (by kernel_rfl) (by decide)) (.cons (.str _ _ (by kernel_rfl) (by decide)) (.cons (.str _ _ (by kernel_rfl) (by decide)) .nil)))))
 |5,hk,di=>
  cases hk;cases di;exact const_int T GH
 |6,hk,di=>
  cases hk;cases di;obtain⟨v,hm,hr⟩:=T.const _ _ Kp;refine⟨v,hm,λh' Z ac az=>?_⟩;cases hr B with
  |str x t=>exact .str _ t (by kernel_rfl) (by decide)
 |7,hk,di=>
  cases hk;cases di;obtain⟨v,hm,hr⟩:=T.const _ _ Kq;refine⟨v,hm,λh' Z ac az=>?_⟩;cases hr B with
  |str x t=>exact .str _ t (by kernel_rfl) (by decide)
 |8,hk,di=>
  cases hk;cases di;exact const_int T GJ
 |9,hk,di=>
  cases hk;cases di;exact const_int T GM
 |10,hk,di=>
  cases hk;cases di;exact const_int T GI
 |11,hk,di=>
  cases hk;cases di;exact const_int T GL
end
end Lq
set_option tactic.hygienic true in
theorem PySem.Challenge.cw_uf010005_12_holds : PySem.Challenge.rw_uf010005_12.Holds :=
 Hq.hd (by
 intro w s₀ s₁ mg mb G Y fa o pm cd qE dV kV ho hd Pn hD J3 hg args NA as Lb Lk Oh N7 Lj;have KX:=kIn_of Y;have V:=(Ground.X G).2;refine Ground.open G ?_;intro T B D TE TW
 wrow_args Lb Lk Oh N7 Lj
 rename_i xs hs M6 hL hr Ll w4 w3 l vs w0 Ps ra w1 r0 hI Bo LI Po;refine enter_call ?_;obtain⟨c,d,es,ep,sl,Oo⟩:=Lq.kG w.params;have oG:=Bz KX T.g Oo
 letI hp:Hp:=⟨w,s₁.heap,mg,mb⟩
 refine A9 (hp:=hp) (P:=Lq.P) (nss:=Lq.nss) (f:=41) (n:=78) (xs:=xs) rfl T Lq.chk Lq.chkBd Lq.chkF (rE T PySem.F.excBase_ValueError Lq.chkC) (Lq.askOk KX oG T.builtins) (Lq.askTOk KX oG) (Lq.glsOk KX oG T V) Lq.defAt J3 w1 ?_ (by decide) hg ?_ ?_ (Lq.law_ok 0 xs)
 .have:xs.length<=63:=by omega
  exact Zf this (by decide)
 .intro cls;rfl
 .wrow_post)
