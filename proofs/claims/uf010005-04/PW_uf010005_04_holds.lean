import PyProof.Rows.All
import OpenK.KWalk
import Open.Tree
import Wide.FinOn
import PyProof.DictStraight
import PySem.PyData
import PyProof.SameEqv
import PyProof.SliceMore
import PyProof.Cells
import KE.KEqDict
import PyProof.ZipIter
import PyProof.TupleIter
import PyProof.Rows.ZipGen
import KE.KDictOf
import PyProof.AttrMissSeq
import KE.KRevIter
import PyProof.DictDisplay
import PyProof.RaisesMany
import PyProof.ForAny
import PyProof.NsDelKeeps
import PyProof.Rows.OwnQ
import PyProof.ExcClass3
import KE.KTryMore
import PyProof.ExcAttrAll.ValueError
import PySem.Challenge.RW_uf010005_04
set_option maxRecDepth 100000
set_option linter.unusedVariables false
set_option linter.unusedSimpArgs false
set_option linter.unusedSectionVars false
set_option Elab.async false
set_option tactic.hygienic false
set_option genSizeOf false
set_option genInjectivity false
set_option genCtorIdx false
set_option bootstrap.genMatcherCode false
open List (append_nil append_assoc all_eq_true map_cons map_nil mem_cons mem_singleton replicate all_cons find?_cons any_cons reverse_cons zipIdx_cons forIn_cons drop_zero nodup_cons mem_filterMap nodup_append getElem_mem contains_iff_mem mem_append cons_append length_nil any_eq_true getElem_range mem_map mem_range Pairwise length_pos_iff Nodup mem_filter length_take Sublist map_map pairwise_map length)
open Nat (add_comm mul_comm le_of_succ_le ne_of_lt lt_succ_self ne_of_gt le_of_lt min_eq_left le_succ_of_le max_le mod_lt mul_le_mul_left)
open Array (all_toList size_append length_toList)
open Option (map_eq_some_iff isSome_iff_exists map_some)
open PySem.PyData (eqv str canLayAll0 canLay0 depth depthAll int list tuple dict)
open PySem.Value (type builtin)
open Bool (and_eq_true_iff false_eq_true or_eq_true_iff noConfusion not_eq_true')
open Int (one_mul mul_zero zero_mul mul_nonneg ofNat_le reduceNeg)
open PySem.Calls (docDef callWith_builtin)
variable {α β γ ε:Type} {a fa dx C:PySem.Addr} {e g cq value ea eb:PySem.Expr} {f i m n j kk:Nat} {ns cD rb pin:List Nat} {s s':PySem.Shared} {body:List PySem.Stmt} {items:Array PySem.Value} {h h' h₀:PySem.Heap} {vs:List PySem.Value} {es:List PySem.Expr} {Z Z' fs:PySem.Addr->Prop} {b':Bool} {A:PySem.Around} {E:PySem.Value->PySem.Shared->Prop} {pos cW gn:PySem.Pos} {nm:PySem.Str} {ae:PySem.Addr->Option Nat} {lT:PySem.Sem PySem.Value} {V:PySem.Value} {yes:List PySem.Str} {scope:PySem.Scope} {ox:PySem.Obj}
namespace Internal
section
open PySem PySem.W
namespace Ht
section
variable {tb:String->Option Builtin} {p:Program} {w:World} {pq:Nat} {CM:Option Value}
noncomputable def z4 (tb:String->Option Builtin) (p:Program) (w:World) (pq:Nat) (CM:Option Value):Nat->SharedT->Thread->Option SharedT
 |0,_,_=>none
 |n+1,s,t=>match through t with
  |true=>some s
  |false=>match stepOk pq CM t with
   |false=>none
   |true=>match stepT (denote tb) p w s t with
    |some (s',t')=>z4 tb p w pq CM n s' t'
    |none=>none
theorem v8:∀ {n:Nat} {s s':SharedT} {t:Thread},z4 tb p w pq CM n s t=some s'->topRun tb p w pq CM n s.abs t=some s'.abs
 |0,_,_,_,h=>by cases h
 |n+1,s,s',t,h=>by
  have h:(match through t with
  |true=>some s
  |false=>match stepOk pq CM t with
   |false=>none
   |true=>match stepT (denote tb) p w s t with
    |some (s',t')=>z4 tb p w pq CM n s' t'
    |none=>none)=some s':=h
  unfold topRun;cases he:through t with
  |true=>rw[he]at h;cases h;rfl
  |false=>
   rw[he]at h;cases hk:stepOk pq CM t with
   |false=>rw[hk]at h;cases h
   |true=>
    rw[hk]at h;cases hs:stepT (denote tb) p w s t with
    |none=>rw[hs]at h;cases h
    |some r=>obtain⟨aG,ND⟩:=r;rw[hs]at h;rw[stepT_spec hs];exact v8 h
noncomputable def load:List Obj->BT->Nat->Option BT
 |[],t,_=>some t
 |o::r,t,n=>match ((t.ins n o).get n).isSome with
  |true=>load r (t.ins n o) (n+1)
  |false=>none
theorem sX {life:Life}:∀ {l:List Obj} {t t':BT} {n:Nat},load l t n=some t'->absHeap t' (n+l.length) life=⟨((absHeap t n life).objs.toList++l).toArray,life⟩
 |[],t,t',n,h=>by cases h;rw[append_nil];rfl
 |o::r,t,t',n,h=>by
  have h:(match ((t.ins n o).get n).isSome with
  |true=>load r (t.ins n o) (n+1)
  |false=>none)=some t':=h
  cases hg:((t.ins n o).get n).isSome with
  |false=>rw[hg]at h;cases h
  |true=>
   rw[hg]at h;have:=sX (life:=life) h;rw[absHeap_ins hg]at this;rw[show n+(o::r).length=n+1+r.length by simp[add_comm,Nat.add_left_comm],this]
   congr 1
   show(((absHeap t n life).objs.push o).toList++r).toArray=_
   rw[Array.toList_push,append_assoc];rfl
noncomputable def yn (tb:String->Option Builtin) (p:Program) (w:World) (N:Nat):Option Shared:=
 match fencedOpening tb p w N with
 |none=>none
 |some s₀=>match s₀.heap.isNs mainGlobals&&s₀.gens.size==0 with
  |false=>none
  |true=>match load s₀.heap.objs.toList .nil 0 with
   |none=>none
   | some t₀=>match z4 tb p w s₀.heap.objs.size (s₀.heap.nsMap mainGlobals "__annotations__") N ⟨t₀,0 + s₀.heap.objs.toList.length,s₀.heap.life,s₀.gens,s₀.drawn,s₀.toks,s₀.os⟩ (topStub p) with
    |none=>none
    |some s=>match staticsOk (importedModules p.main.body) s₀.heap s.abs.heap&&namesBound p s.abs.heap&&gensDone s.abs&&laidKept s₀.heap s.abs.heap with
     |true=>some s.abs
     |false=>none
set_option tactic.hygienic true in
theorem Bl {N:Nat} {s₁:Shared} (h:yn tb p w N=some s₁):openEnds tb p w N=some s₁:=by
 unfold yn at h;unfold openEnds;cases hf:fencedOpening tb p w N with
 |none=>rw[hf]at h;cases h
 |some s₀=>
  rw[hf]at h;show topFrom tb p w N s₀=some s₁
  unfold topFrom;dsimp only at h;cases hc:s₀.heap.isNs mainGlobals&&s₀.gens.size==0 with
  |false=>rw[hc]at h;cases h
  |true=>
   rw[hc]at h;dsimp only at h ⊢;cases hl:load s₀.heap.objs.toList .nil 0 with
   |none=>rw[hl]at h;cases h
   |some t₀=>
    rw[hl]at h;dsimp only at h
    split at h
    .cases h
    .rename_i s hr
     have hr:=v8 hr;have e:SharedT.abs ⟨t₀,0+s₀.heap.objs.toList.length,s₀.heap.life,s₀.gens,s₀.drawn,s₀.toks,s₀.os⟩=s₀:=by
      unfold SharedT.abs;dsimp only;rw[sX hl]
      rfl
     rw[e]at hr;rw[hr];exact h
end
theorem leftT {p q:Program} {loose:List Str} {Xt:Shared->Bool} {α:Type} {Yf:Shared->α} {Ya:World->α} {N:Nat} {g0:Bool}
  (h:∀w,(yn treeTable p w N).map (λs=>(openSeen q loose (importedModules p.main.body) Xt g0 s,Yf s))=some (openGood q loose,Ya w)):LeftO p q loose Xt Yf Ya N g0:=λw=>by
 obtain⟨s,e,e'⟩:=map_eq_some_iff.mp (h w);rw[Bl e];exact congrArg some e'
end Ht
end
section
open PySem PySem.W PyProof.Rows
set_option maxHeartbeats 8000000
namespace Hq
abbrev row:=PySem.Challenge.rw_uf010005_04.row
abbrev p:Program:=RowW.prog (OpenRow.toRowW row)
noncomputable def view:Program:= {p with main:= {p.main with body:=[1,2,3,4,5,6,7,8,9,10,12,13,14,15,17,18,19,20,21,22,23,24,26,27,29,30,31,32,33,34,35,36,37,38,39,40,41,42,43,44,45,46,47,48,49,50,51,52,53,54].filterMap λi=>p.main.body[i]?}}
noncomputable def loose:List Str:=[Str.ofString "GREAT"]
noncomputable def lv:List (Str × WData):=[(Str.ofString "GREAT",WData.int 1000000000000000000)]
noncomputable def kS (s:String) (a:Nat):Value:=.str (Str.ofString s) a
noncomputable def kE (P:Params) (s:String) (a:Nat) (v:Value):DictEntry:= {hash:=PyData.keyHash P (Str.ofString s),key:=kS s a,val:=v}
noncomputable def K:Params->Frag:=λP=>[
(3, {cls:=type "dict",data:=Data.dict #[kE P "__name__" 165 (kS "law_uf010005_04" 549),kE P "__doc__" 166 Value.none,kE P "__package__" 167 Value.none,kE P "__loader__" 168 (builtin "__main__.__loader__#opaque"),kE P "__spec__" 169 Value.none,kE P "__annotations__" 170 (.ref 6),kE P "__builtins__" 171 (.ref 4),kE P "__file__" 173 (kS "/claim/cut.py" 172),kE P "__cached__" 174 Value.none,kE P "HalfError" 206 (.ref 24),kE P "NoNumber" 222 (.ref 37),kE P "NoList" 238 (.ref 49),kE P "NoFirst" 254 (.ref 61),kE P "NoDown" 270 (.ref 73),kE P "ByNought" 286 (.ref 85),kE P "TooGreat" 302 (.ref 97),kE P "TooLong" 318 (.ref 109),kE P "NotKept" 334 (.ref 121),kE P "NoText" 350 (.ref 133),kE P "GREAT" 356 (Value.int 1000000000000000000 355),kE P "HEAVIEST" 358 (Value.int 50 357),kE P "room_left" 369 (.ref 142),kE P "is_value" 376 (.ref 149),kE P "SINGLES" 383 (.ref 150),kE P "refuse" 390 (.ref 157),kE P "fitting" 397 (.ref 164),kE P "number_done" 406 (.ref 171),kE P "down" 413 (.ref 178),kE P "list_done" 421 (.ref 185),kE P "joined" 429 (.ref 192),kE P "done" 437 (.ref 199),kE P "Machine" 538 (.ref 258),kE P "run" 548 (.ref 269),kE P "_law_cell_at" 558 (.ref 276),kE P "_law_next" 566 (.ref 283),kE P "_law_value" 572 (.ref 288),kE P "_law_same" 581 (.ref 295),kE P "_law_weight" 587 (.ref 300),kE P "_law_fit" 594 (.ref 307),kE P "_law_counted" 603 (.ref 314),kE P "_law_taken" 611 (.ref 321),kE P "_law_done" 619 (.ref 328),kE P "_law_told" 625 (.ref 333),kE P "_law_run" 634 (.ref 340),kE P "_law_word" 642 (.ref 347),kE P "_law_ran" 652 (.ref 354),kE P "_law_names" 658 (.ref 359),kE P "_law_few" 667 (.ref 366),kE P "_law_tame" 680 (.ref 373),kE P "_law_parts" 694 (.ref 380),kE P "_law_call" 709 (.ref 387),kE P "_law_do" 722 (.ref 394),kE P "_law_form" 735 (.ref 401),kE P "_law_heads" 741 (.ref 406),kE P "_law_program" 747 (.ref 411),kE P "_law_inputs" 758 (.ref 418),kE P "_law_sorting" 764 (.ref 423),kE P "_law_topped" 770 (.ref 428),kE P "law" 776 (.ref 433)] 59}),
 (23, {cls:=type "dict",data:=Data.dict #[kE P "__module__" 196 (kS "halfrun.errors" 187),kE P "__firstlineno__" 200 (Value.int 2 199),kE P "__static_attributes__" 201 (.ref 22),kE P "__weakref__" 203 (.ref 25),kE P "__doc__" 204 Value.none] 3}),
 (24, {cls:=type "type",data:=Data.cls {name:=Str.ofString "HalfError",bases:=[type "ValueError"],mro:=[Value.ref 24,type "ValueError",type "Exception",type "BaseException",type "object"],ns:=23,qualname:=Str.ofString "HalfError",subclasses:=[Value.ref 37,Value.ref 49,Value.ref 61,Value.ref 73,Value.ref 85,Value.ref 97,Value.ref 109,Value.ref 121,Value.ref 133]},slots:=#[some (Value.ref 15),none,some (kS "HalfError" 189),some (kS "HalfError" 197),some (builtin "ValueError.__new__"),some (Value.bool true)]}),
 (36, {cls:=type "dict",data:=Data.dict #[kE P "__module__" 214 (kS "halfrun.errors" 187),kE P "__firstlineno__" 218 (Value.int 4 217),kE P "__static_attributes__" 219 (.ref 35),kE P "__doc__" 220 Value.none] 2}),
 (37, {cls:=type "type",data:=Data.cls {name:=Str.ofString "NoNumber",bases:=[Value.ref 24],mro:=[Value.ref 37,Value.ref 24,type "ValueError",type "Exception",type "BaseException",type "object"],ns:=36,qualname:=Str.ofString "NoNumber"},slots:=#[some (Value.ref 28),none,some (kS "NoNumber" 207),some (kS "NoNumber" 215),some (builtin "ValueError.__new__"),some (Value.bool true)]}),
 (48, {cls:=type "dict",data:=Data.dict #[kE P "__module__" 230 (kS "halfrun.errors" 187),kE P "__firstlineno__" 234 (Value.int 6 233),kE P "__static_attributes__" 235 (.ref 47),kE P "__doc__" 236 Value.none] 2}),
 (49, {cls:=type "type",data:=Data.cls {name:=Str.ofString "NoList",bases:=[Value.ref 24],mro:=[Value.ref 49,Value.ref 24,type "ValueError",type "Exception",type "BaseException",type "object"],ns:=48,qualname:=Str.ofString "NoList"},slots:=#[some (Value.ref 40),none,some (kS "NoList" 223),some (kS "NoList" 231),some (builtin "ValueError.__new__"),some (Value.bool true)]}),
 (60, {cls:=type "dict",data:=Data.dict #[kE P "__module__" 246 (kS "halfrun.errors" 187),kE P "__firstlineno__" 250 (Value.int 8 249),kE P "__static_attributes__" 251 (.ref 59),kE P "__doc__" 252 Value.none] 2}),
 (61, {cls:=type "type",data:=Data.cls {name:=Str.ofString "NoFirst",bases:=[Value.ref 24],mro:=[Value.ref 61,Value.ref 24,type "ValueError",type "Exception",type "BaseException",type "object"],ns:=60,qualname:=Str.ofString "NoFirst"},slots:=#[some (Value.ref 52),none,some (kS "NoFirst" 239),some (kS "NoFirst" 247),some (builtin "ValueError.__new__"),some (Value.bool true)]}),
 (72, {cls:=type "dict",data:=Data.dict #[kE P "__module__" 262 (kS "halfrun.errors" 187),kE P "__firstlineno__" 266 (Value.int 10 265),kE P "__static_attributes__" 267 (.ref 71),kE P "__doc__" 268 Value.none] 2}),
 (73, {cls:=type "type",data:=Data.cls {name:=Str.ofString "NoDown",bases:=[Value.ref 24],mro:=[Value.ref 73,Value.ref 24,type "ValueError",type "Exception",type "BaseException",type "object"],ns:=72,qualname:=Str.ofString "NoDown"},slots:=#[some (Value.ref 64),none,some (kS "NoDown" 255),some (kS "NoDown" 263),some (builtin "ValueError.__new__"),some (Value.bool true)]}),
 (84, {cls:=type "dict",data:=Data.dict #[kE P "__module__" 278 (kS "halfrun.errors" 187),kE P "__firstlineno__" 282 (Value.int 12 281),kE P "__static_attributes__" 283 (.ref 83),kE P "__doc__" 284 Value.none] 2}),
 (85, {cls:=type "type",data:=Data.cls {name:=Str.ofString "ByNought",bases:=[Value.ref 24],mro:=[Value.ref 85,Value.ref 24,type "ValueError",type "Exception",type "BaseException",type "object"],ns:=84,qualname:=Str.ofString "ByNought"},slots:=#[some (Value.ref 76),none,some (kS "ByNought" 271),some (kS "ByNought" 279),some (builtin "ValueError.__new__"),some (Value.bool true)]}),
 (96, {cls:=type "dict",data:=Data.dict #[kE P "__module__" 294 (kS "halfrun.errors" 187),kE P "__firstlineno__" 298 (Value.int 14 297),kE P "__static_attributes__" 299 (.ref 95),kE P "__doc__" 300 Value.none] 2}),
 (97, {cls:=type "type",data:=Data.cls {name:=Str.ofString "TooGreat",bases:=[Value.ref 24],mro:=[Value.ref 97,Value.ref 24,type "ValueError",type "Exception",type "BaseException",type "object"],ns:=96,qualname:=Str.ofString "TooGreat"},slots:=#[some (Value.ref 88),none,some (kS "TooGreat" 287),some (kS "TooGreat" 295),some (builtin "ValueError.__new__"),some (Value.bool true)]}),
 (108, {cls:=type "dict",data:=Data.dict #[kE P "__module__" 310 (kS "halfrun.errors" 187),kE P "__firstlineno__" 314 (Value.int 16 313),kE P "__static_attributes__" 315 (.ref 107),kE P "__doc__" 316 Value.none] 2}),
 (109, {cls:=type "type",data:=Data.cls {name:=Str.ofString "TooLong",bases:=[Value.ref 24],mro:=[Value.ref 109,Value.ref 24,type "ValueError",type "Exception",type "BaseException",type "object"],ns:=108,qualname:=Str.ofString "TooLong"},slots:=#[some (Value.ref 100),none,some (kS "TooLong" 303),some (kS "TooLong" 311),some (builtin "ValueError.__new__"),some (Value.bool true)]}),
 (120, {cls:=type "dict",data:=Data.dict #[kE P "__module__" 326 (kS "halfrun.errors" 187),kE P "__firstlineno__" 330 (Value.int 18 329),kE P "__static_attributes__" 331 (.ref 119),kE P "__doc__" 332 Value.none] 2}),
 (121, {cls:=type "type",data:=Data.cls {name:=Str.ofString "NotKept",bases:=[Value.ref 24],mro:=[Value.ref 121,Value.ref 24,type "ValueError",type "Exception",type "BaseException",type "object"],ns:=120,qualname:=Str.ofString "NotKept"},slots:=#[some (Value.ref 112),none,some (kS "NotKept" 319),some (kS "NotKept" 327),some (builtin "ValueError.__new__"),some (Value.bool true)]}),
 (132, {cls:=type "dict",data:=Data.dict #[kE P "__module__" 342 (kS "halfrun.errors" 187),kE P "__firstlineno__" 346 (Value.int 20 345),kE P "__static_attributes__" 347 (.ref 131),kE P "__doc__" 348 Value.none] 2}),
 (133, {cls:=type "type",data:=Data.cls {name:=Str.ofString "NoText",bases:=[Value.ref 24],mro:=[Value.ref 133,Value.ref 24,type "ValueError",type "Exception",type "BaseException",type "object"],ns:=132,qualname:=Str.ofString "NoText"},slots:=#[some (Value.ref 124),none,some (kS "NoText" 335),some (kS "NoText" 343),some (builtin "ValueError.__new__"),some (Value.bool true)]}),
 (150, {cls:=type "tuple",data:=Data.seq #[kS "down" 379,kS "first" 380,kS "rest" 381,kS "empty" 382]})]
noncomputable def JT:List Addr:=[3,23,24,36,37,48,49,60,61,72,73,84,85,96,97,108,109,120,121,132,133,150]
theorem K_eq:∀P,JT=(K P).map (·.1):=λaa=>by kernel_rfl
noncomputable abbrev H:Hook:=kHook K JT K_eq
theorem left:LeftO p view loose (λs=>xlAt view lv s&&recOk (RowW.records (OpenRow.toRowW row)) s) (Hook.obs H) (Hook.val H) 20000:=Ht.leftT λw=>by kernel_rfl
theorem KD:PySem.Challenge.rw_uf010005_04.wellSaid=true:=by kernel_rfl
theorem MO:(defOf view (OpenRow.toRowW row).name).isSome=true:=by kernel_rfl
noncomputable abbrev dk:DefRec×List (Str×Expr):=(defOf view (OpenRow.toRowW row).name).get MO
theorem LL:defOf view row.name=some (dk.1,dk.2):=(Option.some_get MO).symm
theorem hp:row.prog.theDef row.name=some (dk.1.params,dk.1.body,dk.1.scope):=by kernel_rfl
theorem hk:kwWritten? dk.1.params.kwonlyargs dk.1.params.kw_defaults=some dk.2:=by kernel_rfl
theorem hok:(chainsOk view&&opensWell row.prog&&(frees row.toRowW&&row.within.isEmpty))=true:=by kernel_rfl
theorem IM:row.prog.bare:=⟨rfl,rfl,rfl,rfl,rfl,by decide +kernel⟩
theorem hw:row.toRowW.promised:=by w_witness2
theorem N9:(!row.writes||row.records.isEmpty)=true:=by kernel_rfl
theorem hd (call:WalkO view loose (XL view lv) (Hook.says H) row.toRowW dk.1 dk.2 λf vs=>PySem.call f vs):PySem.Challenge.rw_uf010005_04.Holds:=
 holds_law KD λk1=>holds_open (q:=view) (loose:=loose) (Xt:=λs=>xlAt view lv s&&recOk (RowW.records (OpenRow.toRowW row)) s) (XP:=XL view lv) (Yf:=Hook.obs H) (Ya:=Hook.val H) (YP:=Hook.says H) (N:=20000)
  left (Hook.of H) (Hook.keeps H) (λs e=>xl_of s (and_eq_true_iff.mp e).1) XL.keeps LL hp hk (λs e=>recFacts_of (and_eq_true_iff.mp e).2) N9 k1 hok IM hw call
end Hq
end
section
set_option backward.match.sparseCases false
namespace Mv
universe u v x y z
theorem Z9 {α:Type u} {β:Type v} {f:α->β} {x:Option α} {b:β} (h:x.map f=some b):∃a,x=some a/\f a=b:=map_eq_some_iff.mp h
theorem Z8:type_of% @Bool.and_eq_true:=@Bool.and_eq_true
theorem Z7:type_of% @Bool.false_ne_true:=@Bool.false_ne_true
theorem Z6:type_of% @PySem.Calls.evalArgs_plain:=@PySem.Calls.evalArgs_plain
theorem Z5:type_of% @PySem.Calls.spliced_cons:=@PySem.Calls.spliced_cons
theorem Z4:type_of% @PySem.Calls.spliced_nil:=@PySem.Calls.spliced_nil
theorem Z2:type_of% @PySem.Heap.get?_push_of_some:=@PySem.Heap.get?_push_of_some
theorem Z1:type_of% @PySem.Heap.get?_push_size:=@PySem.Heap.get?_push_size
theorem Z0:type_of% @PySem.Heap.get?_update_other:=@PySem.Heap.get?_update_other
theorem ZZ:type_of% @PySem.Heap.lt_size:=@PySem.Heap.lt_size
theorem ZY:type_of% @Int.add_zero:=@Int.add_zero
theorem ZX:type_of% @Int.le_antisymm:=@Int.le_antisymm
theorem ZW:type_of% @Int.natAbs_of_nonneg:=@Int.natAbs_of_nonneg
theorem ZV:type_of% @Int.natCast_add:=@Int.natCast_add
theorem ZU:type_of% @Int.natCast_nonneg:=@Int.natCast_nonneg
theorem ZT:type_of% @Int.toNat_natCast:=@Int.toNat_natCast
theorem ZS:type_of% @Int.toNat_of_nonneg:=@Int.toNat_of_nonneg
theorem ZR:type_of% @Int.zero_add:=@Int.zero_add
theorem ZQ:type_of% @all_eq_true.{u}:=@all_eq_true
theorem ZP:type_of% @append_assoc.{u}:=@append_assoc
theorem ZO:type_of% @append_nil.{u}:=@append_nil
theorem ZN:type_of% @List.getD_eq_getElem?_getD.{u}:=@List.getD_eq_getElem?_getD
theorem ZM:type_of% @List.getElem?_append_left.{u}:=@List.getElem?_append_left
theorem ZL:type_of% @List.getElem?_append_right.{u}:=@List.getElem?_append_right
theorem ZK:type_of% @List.getElem?_eq_getElem.{u}:=@List.getElem?_eq_getElem
theorem ZJ:type_of% @List.getElem?_map.{u,v}:=@List.getElem?_map
theorem ZI:type_of% @List.length_append.{u}:=@List.length_append
theorem ZH:type_of% @List.length_cons.{u}:=@List.length_cons
theorem ZG:type_of% @List.length_map.{u,v}:=@List.length_map
theorem ZE:type_of% @List.length_range:=@List.length_range
theorem ZD:type_of% @List.length_reverse.{u}:=@List.length_reverse
theorem ZC:type_of% @List.lookup_cons.{u,v}:=@List.lookup_cons
theorem ZB:type_of% @List.map_append.{u,v}:=@List.map_append
theorem Zz:type_of% @map_cons.{u,v}:=@map_cons
theorem Zy:type_of% @map_nil.{u,v}:=@map_nil
theorem Zx:type_of% @List.mem_append_left.{u}:=@List.mem_append_left
theorem Zw:type_of% @List.mem_append_right.{u}:=@List.mem_append_right
theorem Zv:type_of% @mem_cons.{u}:=@mem_cons
theorem Zu:type_of% @List.mem_cons_of_mem.{u}:=@List.mem_cons_of_mem
theorem Zt:type_of% @List.mem_cons_self.{u}:=@List.mem_cons_self
theorem Zs:type_of% @List.mem_of_getElem?.{u}:=@List.mem_of_getElem?
theorem Zr:type_of% @mem_singleton.{u}:=@mem_singleton
theorem Zq:type_of% @List.nil_append.{u}:=@List.nil_append
theorem Zp:type_of% @List.not_mem_nil.{u}:=@List.not_mem_nil
theorem Zo:type_of% @List.size_toArray.{u}:=@List.size_toArray
theorem Zn:type_of% @Nat.add_sub_cancel':=@Nat.add_sub_cancel'
theorem Zm:type_of% @Nat.add_sub_cancel_left:=@Nat.add_sub_cancel_left
theorem Zl:type_of% @Nat.le_add_right:=@Nat.le_add_right
theorem Zk:type_of% @Nat.le_antisymm:=@Nat.le_antisymm
theorem Zj:type_of% @Nat.le_of_eq:=@Nat.le_of_eq
theorem Zi:type_of% @Nat.le_refl:=@Nat.le_refl
theorem Zh:type_of% @Nat.le_trans:=@Nat.le_trans
theorem Zg:type_of% @Nat.lt_irrefl:=@Nat.lt_irrefl
theorem Zf:type_of% @Nat.lt_of_le_of_lt:=@Nat.lt_of_le_of_lt
theorem Ze:type_of% @Nat.lt_of_lt_of_le:=@Nat.lt_of_lt_of_le
theorem Zd:type_of% @Nat.sub_add_cancel:=@Nat.sub_add_cancel
theorem Zc:type_of% @Nat.zero_le:=@Nat.zero_le
theorem Zb:type_of% @PySem.Obj.data_mapFields:=@PySem.Obj.data_mapFields
theorem Za:type_of% @map_eq_some_iff.{u,v}:=@map_eq_some_iff
theorem Y9:type_of% @Option.some.inj.{u}:=@Option.some.inj
theorem Y8:type_of% @PyProof.Rows.callWith_type:=@PyProof.Rows.callWith_type
theorem Y7:type_of% @congrArg.{u,v}:=@congrArg
theorem Y6:type_of% @decide_eq_false:=@decide_eq_false
theorem Y5:type_of% @decide_eq_true:=@decide_eq_true
theorem Y4:type_of% @decide_eq_true_eq:=@decide_eq_true_eq
theorem Y3:type_of% @decide_false:=@decide_false
theorem Y2:type_of% @decide_true:=@decide_true
theorem Y1:type_of% @if_neg.{u}:=@if_neg
theorem Y0:type_of% @if_pos.{u}:=@if_pos
theorem YZ:type_of% @of_decide_eq_true:=@of_decide_eq_true
theorem YY:type_of% @PySem.wpAny_bind:=@PySem.wpAny_bind
theorem YX:type_of% @PySem.wpAny_field:=@PySem.wpAny_field
theorem YW:type_of% @PySem.wpAny_mono:=@PySem.wpAny_mono
theorem YV:type_of% @PySem.wpAny_newObj_type:=@PySem.wpAny_newObj_type
theorem YU:type_of% @PySem.wpAny_pure:=@PySem.wpAny_pure
theorem YT:type_of% @PySem.wpAny_setField_rec:=@PySem.wpAny_setField_rec
theorem ud {r:Nat} (h:1<=r):∃k,r=k+1:=⟨r-1,(Zd h).symm⟩
theorem mc {α:Type u} {a:α} {l:List α} {P:α->Prop} (h:∀x∈a::l,P x):∀x∈l,P x:=λx m=>h x (Zu _ m)
open PySem
noncomputable abbrev D:=PyData
noncomputable abbrev Sz:Nat:=16777216
noncomputable abbrev Wz:Nat:=1208925819614629174706176
theorem EX {α:Sort u} {β:Sort v} (P:α->β->Prop) {c:Prop} (k:∀J:α->β->Prop,(∀a b,J a b->P a b)->(∀a b,P a b->J a b)->c):c:=k P (λaa aA h=>h) λaa aA h=>h
theorem ag {p:Prop} (h:∀G:Prop,(p->G)->G):p:=h p id
theorem aX {α:Sort u} {p:α->Prop} {c:Prop} (h:∃a,p a) (k:∀a,p a->c):c:=h.elim k
theorem fM {α:Sort u} {β:Sort v} {p:α->β->Prop} {c:Prop} (h:∃a b,p a b) (k:∀a b,p a b->c):c:=h.elim λa h=>h.elim (k a)
theorem iM {α:Sort u} {β:Sort v} {γ:Sort w} {p:α->β->γ->Prop} {c:Prop} (h:∃a b d,p a b d) (k:∀a b d,p a b d->c):c:=h.elim λa h=>fM h (k a)
theorem lM {α:Sort u} {β:Sort v} {γ:Sort w} {δ:Sort x} {p:α->β->γ->δ->Prop} {c:Prop} (h:∃a b d e,p a b d e) (k:∀a b d e,p a b d e->c):c:=h.elim λa h=>iM h (k a)
@[elab_as_elim] theorem Er {α:Sort u} {a b:α} {M:α->Prop} (h:a=b) (m:M b):M a:=h▸m
set_option genCtorIdx true in
inductive Slot where|no|fz (d:D)|own (d:D)|exc (c:Str)
inductive Pl where|var (i:Nat)
set_option genCtorIdx true in
inductive Rv where|fz (d:D)|own (d:D)|pl (p:Pl)
noncomputable abbrev Fm:=List Slot
noncomputable abbrev cA (α:Type):=Option (Except Str α×Fm)
class Kt (α β:Type) where
 run:α->Fm->cA β
noncomputable def du {α β:Type} (m:cA α) [k:Kt α β]:cA β:=
 match m with
 |none=>none
 |some (.error e,fr)=>some (.error e,fr)
 |some (.ok a,fr)=>k.run a fr
noncomputable abbrev aT {α β:Type} (m:cA α) (k:α->Fm->cA β):cA β:=@du α β m ⟨k⟩
theorem fq (a:α) (fr:Fm) (k:α->Fm->cA β): @du α β (some (.ok a,fr)) ⟨k⟩=k a fr:=by rfl
set_option genCtorIdx true in
inductive lE where|add|sub|mul|fdiv|mod|pow
set_option genCtorIdx true in
inductive Cm where|eq|ne|lt|le|gt|ge|isin|nel
set_option genCtorIdx true in
inductive Ty where|tup|int|bool|str
inductive Bi where
 |len|isi (t:Ty)|sum|abs|int|tuple|list
 |count|dzip|dict0
set_option genCtorIdx true in
inductive iN where|seq|range|rev
inductive Tgt where|one (i:Nat)|tup (is:List Nat)
inductive Ex where
 |lit (d:D)
 |gl (k:Nat)
 |var (i:Nat)
 |pl (p:Pl)
 |tup (es:List Ex)
 |list (es:List Ex)
 |op2 (o:lE) (a b:Ex)
 |neg (a:Ex)
 |not (a:Ex)
 |cmp (o:Cm) (a b:Ex)
 |cmp2 (o p:Cm) (a b c:Ex)
 |and (es:List Ex)
 |or (es:List Ex)
 |ite (c a b:Ex)
 |idx (a i:Ex)
 |slc (a lo hi:Ex)
 |call (f:Nat) (args:List Ex)
 |bi (b:Bi) (args:List Ex)
 |comp (cq:Ex) (t:Tgt) (it:iN) (b8:List Ex) (ay:List Ex)
 |pop (p:Pl)
 |mcall (f:Nat) (as:List Nat) (args:List Ex)
 |callw (f:Nat) (args:List Ex) (e:Ex)
 |isx (i:Nat) (yes no:List Str)
 |dsel (ks:List Str) (es:List Ex) (i:Nat)
inductive St where
 |asg (t:Tgt) (e:Ex)
 |setI (p:Pl) (i e:Ex)
 |app (p:Pl) (e:Ex)
 |exp (e:Ex)
 |iff (c:Ex) (a b:List St)
 |ret (e:Ex)
 |for_ (t:Tgt) (it:iN) (b8:List Ex) (body:List St) (cD:List Nat)
 |whl (t:Ex) (body:List St) (cD:List Nat)
 |rev (p:Pl)
 |mst (f:Nat) (as rb:List Nat) (args:List Ex)
 |new (f:Nat) (as:List Nat) (args:List Ex) (body:List St)
 |raise (c:Str)
 |try_ (body:List St) (yes:List Str) (v:Nat) (hand:List St)
 |no
set_option genCtorIdx true in
inductive dH where|next|ret (r:Rv)
noncomputable def pB (a b:Int):Bool:=decide (a.natAbs<2 ^ 64)||decide (b.natAbs<2 ^ 64)
noncomputable def uz (a b:Int):Option Rv:=if pB a b=true then some (.fz (.int (a*b))) else none
noncomputable def rep (n:Int) (xs:List α):List α:=(replicate n.toNat xs).flatten
noncomputable def op2:lE->D->D->Option Rv
 |.add,.int a,.int b=>some (.fz (.int (a+b)))
 |.add,.str a,.str b=>if a.cps.size+b.cps.size<=Sz then some (.fz (.str ⟨a.cps++b.cps⟩)) else none
 |.add,.tuple a,.tuple b=>if a.length+b.length<=Sz then some (.fz (.tuple (a++b))) else none
 |.add,.list a,.list b=>if a.length+b.length<=Sz then some (.own (.list (a++b))) else none
 |.sub,.int a,.int b=>some (.fz (.int (a-b)))
 |.mul,.int a,.int b=>uz a b
 |.mul,.str a,.int n=>if -1000000000<=n/\n<=1000000000/\a.cps.size*n.toNat<=Sz then some (.fz (.str ⟨(rep n a.cps.toList).toArray⟩)) else none
 |.mul,.list a,.int n=>if -1000000000<=n/\n<=1000000000/\a.length*n.toNat<=Sz then some (.own (.list (rep n a))) else none
 |.fdiv,.int a,.int b=>if b≠0/\b.natAbs<2 ^ 64 then some (.fz (.int (a.fdiv b))) else none
 |.mod,.int a,.int b=>if b=0 then none else some (.fz (.int (a.fmod b)))
 |.pow,.int a,.int n=>if 0<=n/\n<=1000/\a.natAbs<2 ^ 64 then some (.fz (.int (a ^ n.toNat))) else none
 |_,_,_=>none
mutual
noncomputable def noDict:D->Bool
 |.none|.bool _|.int _|.str _=>true
 |.list xs|.tuple xs=>noDicts xs
 |.dict _=>false
noncomputable def noDicts:List D->Bool
 |[]=>true
 |x::xs=>noDict x&&noDicts xs
end
noncomputable def lc (a b:D):Bool:=noDict a&&noDict b&&decide (min a.depth b.depth<=64)
noncomputable def og:D->D->Option Bool
 |.int a,.int b=>some (a==b)
 |.str a,.str b=>some (a.cps.toList==b.cps.toList)
 |.bool a,.bool b=>some (a==b)
 |a,b=>if lc a b then some (eqv a b) else none
noncomputable def iq (x:D):List D->Option Bool
 |[]=>some false
 |y::ys=>match og y x with
  |none=>none
  |some b=>match iq x ys with
   |none=>none
   |some c=>some (b||c)
noncomputable def bS:List (D×D)->Str->Option D
 |(.str k,d)::r,x=>if k=x then some d else bS r x
 |_::r,x=>bS r x
 |[],_=>none
noncomputable def ll:List (D×D)->Str->D->List (D×D)
 |(.str k,d)::r,x,e=>(.str k,if k=x then e else d)::ll r x e
 |p::r,x,e=>p::ll r x e
 |[],_,_=>[]
noncomputable def fH (l:List (D×D)) (x:Str) (e:D):List (D×D):=if (bS l x).isSome then ll l x e else l++[(.str x,e)]
noncomputable def fY:List D->Option (List Bool)
 |[]=>some []
 |.bool x::r=>(fY r).map (x :: ·)
 |_::_=>none
noncomputable def bP:List Str->Nat
 |[]=>0
 |x::r=>if r.contains x then bP r else bP r+1
noncomputable def lO:List (D×D)->List D->Option (List (D×D))
 |acc,[]=>some acc
 |acc,.tuple [.str k,v]::r=>lO (fH acc k v) r
 |_,_::_=>none
noncomputable def Ii (x:D):D->Option Bool
 |.tuple xs=>if noDict x then iq x xs else none
 |_=>none
noncomputable def MK:D->D->Option Bool
 |.int a,.int b=>some (decide (a<b))
 |_,_=>none
noncomputable def ML:D->D->Option Bool
 |.int a,.int b=>some (decide (a<=b))
 |_,_=>none
noncomputable def HC:D->D->Option Bool
 |.list xs,.list []=>some (!xs.isEmpty)
 |_,_=>none
noncomputable def au (o:Cm) (a b:D):Option Bool:=match o with
 |.eq=>og a b
 |.ne=>(og a b).map (!·)
 |.lt=>MK a b
 |.le=>ML a b
 |.gt=>MK b a
 |.ge=>ML b a
 |.isin=>Ii a b
 |.nel=>HC a b
noncomputable def tD:D->Bool
 |.none=>false
 |.bool b=>b
 |.int i=>i != 0
 |.str s=>s.cps.size != 0
 |.list xs=>!xs.isEmpty
 |.tuple xs=>!xs.isEmpty
 |.dict kvs=>!kvs.isEmpty
noncomputable def wF:D->Option D
 |.int a=>some (.int (-a))
 |_=>none
noncomputable def bM (xs:List α) (i:Int):Option α:=if 0<=i then xs[i.toNat]? else none
noncomputable def nX:D->D->Option D
 |.list xs,.int i=>bM xs i
 |.tuple xs,.int i=>bM xs i
 |.str s,.int i=>(bM s.cps.toList i).map λc=>.str ⟨#[c]⟩
 |.dict kvs,.str k=>bS kvs k
 |_,_=>none
noncomputable def vS:D->D->D->Option Rv
 |.tuple (_::ds),.int i,.none=>if i=1 then some (.fz (.tuple ds)) else none
 |_,_,_=>none
noncomputable def kW:Ty->D->Bool
 |.tup,.tuple _=>true
 |.int,.int _=>true
 |.int,.bool _=>true
 |.bool,.bool _=>true
 |.str,.str _=>true
 |_,_=>false
noncomputable def qR:Int->List D->Option D
 |a,[]=>some (.int a)
 |a,.int b::r=>qR (a+b) r
 |_,_::_=>none
noncomputable def Bi.loops:Bi->Bool
 |.sum=>true
 |.dzip=>true
 |_=>false
noncomputable def Aw:D->Option Nat
 |.list xs=>some xs.length
 |.tuple xs=>some xs.length
 |_=>none
noncomputable def m4:List D->List D->List D
 |x::xs,z::zs=>.tuple [x,z]::m4 xs zs
 |_,_=>[]
noncomputable def pc:D->Option D
 |.list xs=>match xs.getLast? with
  |some d=>some (.tuple [.list xs.dropLast,d])
  |none=>none
 |_=>none
noncomputable def we:D->Option (List D×D)
 |.tuple [.list ys,d]=>some (ys,d)
 |_=>none
noncomputable def D7:D->Option D
 |.list xs=>some (.list xs.reverse)
 |_=>none
noncomputable def ke:Bi->List D->Option Rv
 |.len,[a]=>(Aw a).map λ(n:Nat)=>.fz (.int n)
 |.isi t,[a]=>some (.fz (.bool (kW t a)))
 |.sum,[.list xs]=>(qR 0 xs).map .fz
 |.abs,[.int a]=>some (.fz (.int a.natAbs))
 |.int,[.bool b]=>some (.fz (.int (if b then 1 else 0)))
 |.tuple,[.list xs]=>some (.fz (.tuple xs))
 |.list,[.tuple xs]=>some (.own (.list xs))
 |.count,[.list xs,.bool b]=>(fY xs).map λbs=>.fz (.int (bs.count b:Nat))
 |.dict0,[]=>some (.own (.dict []))
 |.dzip,[.tuple ks,.tuple vs]=>if ks.length<=1000 then(lO [] (m4 ks vs)).map λkvs=>.own (.dict kvs) else none
 |.dzip,[.tuple ks,.list vs]=>if ks.length<=1000 then(lO [] (m4 ks vs)).map λkvs=>.own (.dict kvs) else none
 |_,_=>none
noncomputable def mJ:List Str->List D->Str->Option D
 |k::ks,d::ds,x=>if k=x then some d else mJ ks ds x
 |_,_,_=>none
noncomputable def fO (a:Int) (n:Nat):List D:=(List.range n).map λ(k:Nat)=>.int (a+k)
noncomputable def bG:iN->List D->Option (List D)
 |.seq,[.list xs]=>some xs
 |.seq,[.tuple xs]=>some xs
 |.range,[.int n]=>if -1000000000<=n/\n<=Sz then some (fO 0 n.toNat) else none
 |.rev,[.tuple xs]=>some xs.reverse
 |_,_=>none
noncomputable def wg (fr:Fm):Pl->Option D
 |.var i=>match fr[i]? with
  |some (.fz d)=>some d
  |some (.own d)=>some d
  |_=>none
noncomputable def Slot.live:Slot->Bool
 |.no=>false
 |_=>true
noncomputable def ju (fr:Fm):Pl->Bool
 |.var i=>match fr[i]? with
  |some sl=>sl.live
  |none=>false
noncomputable def cb (fr:Fm):Pl->Option D
 |.var i=>match fr[i]? with
  |some (.own d)=>some d
  |_=>none
noncomputable def gg (fr:Fm) (p:Pl) (d:D):Fm:=match p with
 |.var i=>fr.set i (.own d)
noncomputable def cj (fr:Fm):Rv->Option D
 |.fz d=>some d
 |.own d=>some d
 |.pl p=>wg fr p
noncomputable def bQ:Rv->Option D
 |.fz d=>some d
 |.own d=>some d
 |.pl _=>none
noncomputable def lI (fr:Fm):List Rv->Option (List D)
 |[]=>some []
 |r::rs=>match cj fr r,lI fr rs with
  |some d,some ds=>some (d::ds)
  |_,_=>none
noncomputable def b9:List Rv->Option (List D)
 |[]=>some []
 |r::rs=>match bQ r,b9 rs with
  |some d,some ds=>some (d::ds)
  |_,_=>none
noncomputable def clr (fr:Fm):List Nat->Fm
 |[]=>fr
 |i::is=>clr (fr.set i .no) is
noncomputable def qu (pin:List Nat) (fr:Fm):List Nat->List D->Option Fm
 |[],[]=>some fr
 |i::is,d::ds=>if pin.contains i then none else qu pin (fr.set i (.fz d)) is ds
 |_,_=>none
noncomputable def asgT (pin:List Nat) (fr:Fm) (t:Tgt) (r:Rv):Option Fm:=match t with
 |.one i=>if pin.contains i then none else match r with
  |.fz d=>some (fr.set i (.fz d))
  |.own d=>some (fr.set i (.own d))
  |.pl _=>none
 |.tup is=>match bQ r with
  |some (.tuple ds)=>qu pin fr is ds
  |_=>none
noncomputable def aW:Tgt->List Nat
 |.one i=>[i]
 |.tup is=>is
noncomputable def Jz {α β:Type} (cl:List Nat) (m:cA α) [k:Kt α β]:cA β:=
 match m with
 |none=>none
 |some (.error e,fr)=>some (.error e,clr fr cl)
 |some (.ok a,fr)=>k.run a fr
noncomputable abbrev tS {α β:Type} (cl:List Nat) (m:cA α) (k:α->Fm->cA β):cA β:=@Jz α β cl m ⟨k⟩
noncomputable def cK (fr:Fm):List Rv->Option (List Slot)
 |[]=>some []
 |r::rs=>match (match r with
   |.fz d=>some (Slot.fz d)
   |.own d=>some (.fz d)
   |.pl (.var i)=>(match fr[i]? with
    |some (.fz d)=>some (.fz d)
    |some (.own d)=>some (.own d)
    |some (.exc c)=>some (.exc c)
    |_=>none)),cK fr rs with
  |some s,some ss=>some (s::ss)
  |_,_=>none
noncomputable def Slot.lent:Slot->Bool
 |.fz _=>false
 |.no=>false
 |.exc _=>false
 |_=>true
noncomputable def dU:List Rv->List Nat
 |[]=>[]
 |.pl (.var i)::rs=>i::dU rs
 |_::rs=>dU rs
noncomputable def cO (fr:Fm):List Rv->List Slot->List Slot->Fm
 |r::rs,s::ss,aK=>if s.lent then(match aK with
   |o::os=>(match r with
    |.pl (.var i)=>cO (fr.set i o) rs ss os
    |_=>cO fr rs ss os)
   |[]=>fr) else cO fr rs ss aK
 |_,_,_=>fr
noncomputable def gD:List Slot->Fm->List Slot
 |[],_=>[]
 |s::ss,fr=>if s.lent then fr.headD .no::gD ss fr.tail else gD ss fr.tail
noncomputable def iC:Nat->List Slot->List Nat
 |_,[]=>[]
 |k,s::ss=>if s.lent then k::iC (k+1) ss else iC (k+1) ss
noncomputable def er (fr:Fm) (as:List Nat):List Slot:=as.map λi=>(fr[i]?).getD .no
noncomputable def dJ (fr:Fm):List Nat->List Slot->Fm
 |[],_=>fr
 |_::_,[]=>fr
 |i::is,s::ss=>dJ (fr.set i s) is ss
noncomputable def dW (na:Nat) (args:List Slot) (fr:Fm):List Slot:=er fr (List.range na)++gD (args.drop na) (fr.drop na)
noncomputable def eW (na:Nat) (rb:List Nat) (args:List Slot):List Nat:=((List.range na).filter λk=>!rb.contains k)++iC na (args.drop na)
noncomputable def Ib:Except Str Rv->Bool
 |.ok (.fz .none)=>true
 |_=>false
noncomputable def nx (as:List Nat):List Nat:=(as.getLast?.getD 0+1)::as
noncomputable def fh (as:List Nat):List Slot:=as.map λaa=>.no
structure cR where
 glob:List D
 call:Bool->Nat->List Slot->Option (Except Str Rv×List Slot)
 pin:List Nat
 hd:Bool
noncomputable def qm [f:Kt D (Option D)] (cl:List Nat):List D->Fm->cA (List D)
 |[],fr=>some (.ok [],clr fr cl)
 |d::ds,fr=>aT (f.run d (clr fr cl)) λr fr=>aT (qm (f:=f) cl ds fr) λrs fr=>match r with
  |none=>some (.ok rs,fr)
  |some x=>some (.ok (x::rs),fr)
noncomputable def xN [f:Kt D dH] (cl:List Nat):List D->Fm->cA dH
 |[],fr=>some (.ok .next,clr fr cl)
 |d::ds,fr=>aT (f.run d (clr fr cl)) λc fr=>match c with
  |.next=>xN (f:=f) cl ds fr
  |.ret r=>some (.ok (.ret r),fr)
noncomputable def Kx [t:Kt Unit Bool] [f:Kt Unit dH] (cl:List Nat):Nat->Fm->cA dH
 |0,_=>none
 |n+1,fr=>aT (t.run () (clr fr cl)) λb fr=>match b with
  |true=>aT (f.run () fr) λc fr=>match c with
   |.next=>Kx (t:=t) (f:=f) cl n fr
   |.ret r=>some (.ok (.ret r),fr)
  |false=>some (.ok .next,fr)
noncomputable def nH {α:Type} (fr:Fm):Option α->cA α
 |none=>none
 |some a=>some (.ok a,fr)
noncomputable def fI (c:cR) (f:Nat) (as:List Nat) (rs:List Rv) (fr:Fm):cA Rv:=
 match cK fr rs with
 |none=>none
 |some ss=>if (as++dU rs).Nodup then match c.call c.hd f (er fr as++ss) with
   |none=>none
   |some (.error e,aK)=>some (.error e,cO (dJ fr as aK) rs ss (aK.drop as.length))
   |some (.ok r,aK)=>(match bQ r with
    |none=>none
    |some _=>some (.ok r,cO (dJ fr as aK) rs ss (aK.drop as.length)))
  else none
noncomputable def fk (c:cR) (f:Nat) (ds:List D) (r:Rv) (fr:Fm):cA Rv:=match r with
 |.own d=>(match c.call c.hd f (ds.map .fz++[.own d]) with
  |some (.error e,_)=>some (.error e,fr)
  |some (.ok r,_)=>(match bQ r with
   |none=>none
   |some _=>some (.ok r,fr))
  |none=>none)
 |_=>none
noncomputable def rg (fr:Fm):Option Rv->cA Rv
 |none=>none
 |some (.fz d)=>some (.ok (.fz d),fr)
 |some (.own d)=>some (.ok (.own d),fr)
 |some (.pl _)=>none
theorem HV {l:List α} (h:l.length=1):∃a,l=[a]:=by
 cases l with
 |nil=>exact nomatch h
 |cons a l=>cases l with
  |nil=>exact⟨a,rfl⟩
  |cons b l=>exact nomatch Nat.succ.inj h
theorem Ax {l:List α} (h:l.length=2):∃a b,l=[a,b]:=by
 cases l with
 |nil=>exact nomatch h
 |cons a l=>exact aX (HV (Nat.succ.inj h)) λb e=>⟨a,b,Y7 _ e⟩
theorem HU {l:List α} (h:l.length=3):∃a b c,l=[a,b,c]:=by
 cases l with
 |nil=>exact nomatch h
 |cons a l=>exact fM (Ax (Nat.succ.inj h)) λb c e=>⟨a,b,c,Y7 _ e⟩
theorem ah {r:α} {p:Prop} (h:none=some r):p:=nomatch h
theorem aI {a r:α} (h:some a=some r):a=r:=Y9 h
theorem iE {a b:α} (h:(Except.ok a:Except ε α) = .ok b):a=b:=Except.ok.inj h
theorem CF {a:α} {e:ε} {p:Prop} (h:(Except.ok a:Except ε α) = .error e):p:=nomatch h
theorem iX {a:α} {e:ε} {p:Prop} (h:(Except.error e:Except ε α) = .ok a):p:=nomatch h
theorem sU {a b:α} {f g:Fm} (h:some ((Except.ok a:Except Str α),f)=some (.ok b,g)):a=b/\f=g:=⟨iE (Prod.mk.inj (aI h)).1,(Prod.mk.inj (aI h)).2⟩
theorem eO {c:Prop} [Decidable c] {a r:α} (h:(if c then some a else none)=some r):c/\a=r:=by
 by_cases q:c
 .rw[Y0 q]at h;exact⟨q,aI h⟩
 .rw[Y1 q]at h;exact ah h
theorem K2 {c:Prop} [Decidable c] {a r:α} (h:(if c then none else some a)=some r):¬c/\a=r:=by
 by_cases q:c
 .rw[Y0 q]at h;exact ah h
 .rw[Y1 q]at h;exact⟨q,aI h⟩
mutual
noncomputable def ev (c:cR):Ex->Fm->cA Rv
 |.lit d,fr=>some (.ok (.fz d),fr)
 |.gl k,fr=>match c.glob[k]? with
  |some d=>some (.ok (.fz d),fr)
  |none=>none
 |.var i,fr=>match fr[i]? with
  |some (.fz d)=>some (.ok (.fz d),fr)
  |some (.own d)=>some (.ok (.fz d),fr.set i (.fz d))
  |_=>none
 |.pl p,fr=>if ju fr p then some (.ok (.pl p),fr) else none
 |.tup es,fr=>aT (gr c es fr) λrs fr=>nH fr ((b9 rs).map λds=>.fz (.tuple ds))
 |.list es,fr=>aT (gr c es fr) λrs fr=>nH fr ((b9 rs).map λds=>.own (.list ds))
 |.op2 o a b,fr=>aT (ev c a fr) λx fr=>aT (ev c b fr) λy fr=>match cj fr x,cj fr y with
  |some d,some e=>rg fr (op2 o d e)
  |_,_=>none
 |.neg a,fr=>aT (ev c a fr) λx fr=>match bQ x with
  |some d=>nH fr ((wF d).map .fz)
  |none=>none
 |.not a,fr=>aT (ev c a fr) λx fr=>match cj fr x with
  |some d=>some (.ok (.fz (.bool (!tD d))),fr)
  |none=>none
 |.cmp o a b,fr=>aT (ev c a fr) λx fr=>aT (ev c b fr) λy fr=>match cj fr x,cj fr y with
  |some d,some e=>nH fr ((au o d e).map λb=>.fz (.bool b))
  |_,_=>none
 |.cmp2 o p a b e,fr=>aT (ev c a fr) λx fr=>aT (ev c b fr) λy fr=>match bQ x,bQ y with
  |some d,some d'=>(match au o d d' with
   |none=>none
   |some t=>if t=true then aT (ev c e fr) λz fr=>match bQ z with
    |some GJ=>nH fr ((au p d' GJ).map λb=>.fz (.bool b))
    |none=>none
    else some (.ok (.fz (.bool false)),fr))
  |_,_=>none
 |.and es,fr=>jR c es fr
 |.or es,fr=>qf c es fr
 |.ite t a b,fr=>aT (ev c t fr) λx fr=>match cj fr x with
  |some d=>if tD d then aT (ev c a fr) λr fr=>match bQ r with
    |none=>none
    |some _=>some (.ok r,fr)
   else aT (ev c b fr) λr fr=>match bQ r with
    |none=>none
    |some _=>some (.ok r,fr)
  |none=>none
 |.idx a i,fr=>aT (ev c a fr) λx fr=>aT (ev c i fr) λy fr=>match cj fr x,bQ y with
  |some d,some e=>nH fr ((nX d e).map .fz)
  |_,_=>none
 |.slc a lo hi,fr=>aT (ev c a fr) λx fr=>aT (ev c lo fr) λy fr=>aT (ev c hi fr) λz fr=>match cj fr x,bQ y,bQ z with
  |some d,some l,some h=>rg fr (vS d l h)
  |_,_,_=>none
 |.call f args,fr=>aT (gr c args fr) λrs fr=>fI c f [] rs fr
 |.mcall f as args,fr=>aT (gr c args fr) λrs fr=>fI c f as rs fr
 |.callw f args e,fr=>aT (gr c args fr) λrs fr=>match b9 rs with
  |some ds=>aT (ev c e fr) λr fr=>fk c f ds r fr
  |none=>none
 |.pop p,fr=>match cb fr p with
  |some o=>(match pc o with
   |some q=>(match we q with
    |some x=>some (.ok (.fz x.2),gg fr p (.list x.1))
    |none=>none)
   |none=>none)
  |none=>none
 |.bi b args,fr=>if c.hd&&b.loops then none else aT (gr c args fr) λrs fr=>match lI fr rs with
  |some ds=>rg fr (ke b ds)
  |none=>none
 |.comp cq t it b8 ay,fr=>if c.hd then none else aT (gr c b8 fr) λrs fr=>match b9 rs with
  |none=>none
  |some ds=>match bG it ds with
   |none=>none
   |some items=>tS (aW t) (qm (f:=⟨λd fr=>match asgT c.pin fr t (.fz d) with
     |none=>none
     |some fr=>aT (dm c ay fr) λb fr=>if b then aT (ev c cq fr) λr fr=>nH fr ((bQ r).map some) else some (.ok none,fr)⟩) (aW t) items fr)
     λds fr=>some (.ok (.own (.list ds)),fr)
 |.isx i yes no,fr=>match fr[i]? with
  |some (.exc k)=>if yes.contains k=true then some (.ok (.fz (.bool true)),fr) else if no.contains k=true then some (.ok (.fz (.bool false)),fr) else none
  |_=>none
 |.dsel ks es i,fr=>aT (gr c es fr) λrs fr=>match b9 rs,fr[i]? with
  |some ds,some (.fz (.str x))=>nH fr ((mJ ks ds x).map .fz)
  |_,_=>none
noncomputable def gr (c:cR):List Ex->Fm->cA (List Rv)
 |[],fr=>some (.ok [],fr)
 |e::es,fr=>aT (ev c e fr) λr fr=>aT (gr c es fr) λrs fr=>some (.ok (r::rs),fr)
noncomputable def jR (c:cR):List Ex->Fm->cA Rv
 |[],_=>none
 |e::es,fr=>aT (ev c e fr) λr fr=>match bQ r with
  |none=>none
  |some d=>match es with
   |[]=>some (.ok r,fr)
   |_::_=>if tD d then jR c es fr else some (.ok r,fr)
noncomputable def qf (c:cR):List Ex->Fm->cA Rv
 |[],_=>none
 |e::es,fr=>aT (ev c e fr) λr fr=>match bQ r with
  |none=>none
  |some d=>match es with
   |[]=>some (.ok r,fr)
   |_::_=>if tD d then some (.ok r,fr) else qf c es fr
noncomputable def dm (c:cR):List Ex->Fm->cA Bool
 |[],fr=>some (.ok true,fr)
 |e::es,fr=>aT (ev c e fr) λr fr=>match cj fr r with
   |none=>none
   |some d=>if tD d then dm c es fr else some (.ok false,fr)
end
noncomputable def Ac:Option D->Bool
 |some (.list _)=>true
 |_=>false
noncomputable def Tgt.isTup:Tgt->Bool
 |.one _=>false
 |.tup _=>true
noncomputable def zP:D->D->D->Option D
 |.list xs,.int i,d=>if 0<=i/\i<xs.length then some (.list (xs.set i.toNat d)) else none
 |.dict kvs,.str k,d=>if kvs.length<Sz then some (.dict (fH kvs k d)) else none
 |_,_,_=>none
mutual
noncomputable def mB (c:cR):St->Fm->cA dH
 |.asg t e,fr=>if c.hd&&t.isTup then none else aT (ev c e fr) λr fr=>match asgT c.pin fr t r with
  |some fr=>some (.ok .next,fr)
  |none=>none
 |.setI p i e,fr=>aT (ev c e fr) λr fr=>if (cb fr p).isSome then aT (ev c i fr) λk fr=>match bQ r,bQ k,cb fr p with
  |some d,some k,some o=>(match zP o k d with
   |some o'=>some (.ok .next,gg fr p o')
   |none=>none)
  |_,_,_=>none
  else none
 |.app p e,fr=>if Ac (cb fr p) then aT (ev c e fr) λr fr=>match bQ r,cb fr p with
  |some d,some (.list xs)=>if xs.length<Sz then some (.ok .next,gg fr p (.list (xs++[d]))) else none
  |_,_=>none
  else none
 |.exp e,fr=>aT (ev c e fr) λaa fr=>some (.ok .next,fr)
 |.iff t a b,fr=>aT (ev c t fr) λx fr=>match cj fr x with
  |some d=>if tD d then c9 c a fr else c9 c b fr
  |none=>none
 |.ret e,fr=>aT (ev c e fr) λr fr=>match r with
  |.pl _=>none
  |r=>some (.ok (.ret r),fr)
 |.for_ t it b8 body cD,fr=>if c.hd then none else aT (gr c b8 fr) λrs fr=>match b9 rs with
  |none=>none
  |some ds=>match bG it ds with
   |none=>none
   |some items=>xN (f:=⟨λd fr=>match asgT c.pin fr t (.fz d) with
     |none=>none
     |some fr=>c9 c body fr⟩) cD items fr
 |.whl t body cD,fr=>if c.hd then none else Kx (t:=⟨λaa fr=>aT (ev c t fr) λr fr=>match cj fr r with
   |some d=>some (.ok (tD d),fr)
   |none=>none⟩) (f:=⟨λaa fr=>c9 c body fr⟩) cD Wz fr
 |.no,_=>none
 |.rev p,fr=>match cb fr p with
  |some o=>(match D7 o with
   |some o'=>some (.ok .next,gg fr p o')
   |none=>none)
  |none=>none
 |.mst f as rb args,fr=>aT (gr c args fr) λrs fr=>if rb.any (c.pin.contains ·) then none else aT (fI c f as rs fr) λaa fr=>some (.ok .next,fr)
 |.new f as args body,fr=>if c.hd then none else aT (gr c args fr) λrs fr=>match b9 rs with
  |none=>none
  |some ds=>(match c.call false f (fh as++ds.map .fz) with
   |some (o,aK)=>if Ib o then(match c9 c body (dJ fr as aK) with
    |some (r,fr)=>some (r,clr fr (nx as))
    |none=>none) else none
   |none=>none)
 |.raise k,fr=>if c.hd then none else some (.error k,fr)
 |.try_ body yes v hand,fr=>if c.hd then none else match c9 c body fr with
  |none=>none
  |some (.ok k,fr)=>some (.ok k,fr)
  |some (.error e,fr)=>if yes.contains e=true/\ ¬c.pin.contains v=true then(match c9 {c with hd:=true} hand (fr.set v (.exc e)) with
   |some (.ok k,fr)=>some (.ok k,fr.set v .no)
   |_=>none) else none
noncomputable def c9 (c:cR):List St->Fm->cA dH
 |[],fr=>some (.ok .next,fr)
 |s::ss,fr=>aT (mB c s fr) λk fr=>match k with
  |.next=>c9 c ss fr
  |.ret r=>some (.ok (.ret r),fr)
end
structure Fn where
 np:Nat
 nv:Nat
 body:List St
 na:Nat
 rb:List Nat
structure Pr where
 glob:List D
 fns:List Fn
noncomputable def cF (P:Pr):Nat->Bool->Nat->List Slot->Option (Except Str Rv×List Slot)
 |0,_,_,_=>none
 |n+1,hd,f,args=>match P.fns[f]? with
  |none=>none
  |some fn=>if args.length=fn.np then
    match c9 ⟨P.glob,cF P n,eW fn.na fn.rb args,hd⟩ fn.body (args++replicate (fn.nv-fn.np) .no) with
    |none=>none
    |some (.error e,fr)=>some (.error e,dW fn.na args fr)
    |some (.ok .next,fr)=>some (.ok (.fz .none),dW fn.na args fr)
    |some (.ok (.ret r),fr)=>some (.ok r,dW fn.na args fr)
   else none
end Mv
namespace Mv
inductive NE where|v (i:Nat)|c (n:Nat)|a (x y:NE)|m (k:Nat) (x:NE)
inductive IE where|v (i:Nat)|c (z:Int)|n (x:NE)|a (x y:IE)|s (x y:IE)|g (x:IE)|m (k:Int) (x:IE)
noncomputable abbrev NE.x:NE:=.v 0
noncomputable abbrev NE.y:NE:=.v 1
noncomputable abbrev NE.z:NE:=.v 2
noncomputable abbrev NE.u:NE:=.v 3
noncomputable abbrev IE.x:IE:=.v 0
noncomputable abbrev IE.y:IE:=.v 1
noncomputable abbrev IE.z:IE:=.v 2
noncomputable abbrev IE.u:IE:=.v 3
noncomputable abbrev NE.p (n:Nat) (x:NE):NE:=.a x (.c n)
noncomputable abbrev IE.p (n:Int) (x:IE):IE:=.a x (.c n)
noncomputable def JD:List Nat->Nat->Nat
 |[],_=>0
 |x::_,0=>x
 |_::l,i+1=>JD l i
noncomputable def JE:List Int->Nat->Int
 |[],_=>0
 |x::_,0=>x
 |_::l,i+1=>JE l i
noncomputable def NE.d (ns:List Nat):NE->Nat
 |.v i=>JD ns i
 |.c n=>n
 |.a x y=>x.d ns+y.d ns
 |.m k x=>k*x.d ns
noncomputable def IE.d (ns:List Nat) (is:List Int):IE->Int
 |.v i=>JE is i
 |.c z=>z
 |.n x=>((x.d ns:Nat):Int)
 |.a x y=>x.d ns is+y.d ns is
 |.s x y=>x.d ns is-y.d ns is
 |.g x=>- x.d ns is
 |.m k x=>k*x.d ns is
noncomputable def nh:List Int->List Int->List Int
 |[],l=>l
 |l,[]=>l
 |x::l,y::r=>(x+y)::nh l r
noncomputable def oN (k:Int) (l:List Int):List Int:=l.map (k * ·)
noncomputable def nj:Nat->List Int
 |0=>[1]
 |i+1=>0::nj i
structure LF where
 k:Int
 n:List Int
 i:List Int
noncomputable def LF.add (x y:LF):LF:=⟨x.k+y.k,nh x.n y.n,nh x.i y.i⟩
noncomputable def LF.mul (k:Int) (x:LF):LF:=⟨k*x.k,oN k x.n,oN k x.i⟩
noncomputable def NE.l:NE->LF
 |.v i=>⟨0,nj i,[]⟩
 |.c n=>⟨n,[],[]⟩
 |.a x y=>x.l.add y.l
 |.m k x=>x.l.mul k
noncomputable def IE.l:IE->LF
 |.v i=>⟨0,[],nj i⟩
 |.c z=>⟨z,[],[]⟩
 |.n x=>x.l
 |.a x y=>x.l.add y.l
 |.s x y=>x.l.add (y.l.mul (-1))
 |.g x=>x.l.mul (-1)
 |.m k x=>x.l.mul k
noncomputable def fj:List Int->List Nat->Int
 |x::l,y::r=>x*y+fj l r
 |_,_=>0
noncomputable def eQ:List Int->List Int->Int
 |x::l,y::r=>x*y+eQ l r
 |_,_=>0
noncomputable def LF.d (ns:List Nat) (is:List Int) (x:LF):Int:=x.k+fj x.n ns+eQ x.i is
theorem Kp (a b c d:Int):a+b+(c+d)=a+c+(b+d):=by
 rw[Int.add_assoc,Int.add_assoc,Int.add_left_comm b]
theorem m1 (y:Int): -1*y = -y:=by rw[Int.neg_mul,one_mul]
theorem yr:∀(a b:List Int) (r:List Nat),fj (nh a b) r=fj a r+fj b r:=by
 intro a b r
 induction a generalizing b r with
 |nil=>exact(ZR _).symm
 |cons x a ih=>
  cases b with
  |nil=>exact(ZY _).symm
  |cons y b=>
   cases r with
   |nil=>exact rfl
   |cons z r=>
     show(x+y)*(z:Int)+fj (nh a b) r=x*z+fj a r+(y*z+fj b r)
     rw[ih b r,Int.add_mul];exact Kp _ _ _ _
theorem yu:∀(a b:List Int) (r:List Int),eQ (nh a b) r=eQ a r+eQ b r:=by
 intro a b r
 induction a generalizing b r with
 |nil=>exact(ZR _).symm
 |cons x a ih=>
  cases b with
  |nil=>exact(ZY _).symm
  |cons y b=>
   cases r with
   |nil=>exact rfl
   |cons z r=>
     show(x+y)*z+eQ (nh a b) r=x*z+eQ a r+(y*z+eQ b r)
     rw[ih b r,Int.add_mul];exact Kp _ _ _ _
theorem yq (k:Int):∀(a:List Int) (r:List Nat),fj (oN k a) r=k*fj a r:=by
 intro a r
 induction a generalizing r with
 |nil=>exact(mul_zero k).symm
 |cons x a ih=>
  cases r with
  |nil=>exact(mul_zero k).symm
  |cons z r=>
    show k*x*(z:Int)+fj (oN k a) r=k*(x*z+fj a r)
    rw[ih r,Int.mul_add,Int.mul_assoc]
theorem yt (k:Int):∀(a:List Int) (r:List Int),eQ (oN k a) r=k*eQ a r:=by
 intro a r
 induction a generalizing r with
 |nil=>exact(mul_zero k).symm
 |cons x a ih=>
  cases r with
  |nil=>exact(mul_zero k).symm
  |cons z r=>
    show k*x*z+eQ (oN k a) r=k*(x*z+eQ a r)
    rw[ih r,Int.mul_add,Int.mul_assoc]
theorem u3:∀(i:Nat) (r:List Nat),fj (nj i) r=(JD r i:Int):=by
 intro i r
 induction i generalizing r with
 |zero=>
  cases r with
  |nil=>exact rfl
  |cons x r=>show 1*(x:Int)+0=x;rw[one_mul,ZY]
 |succ i ih=>
  cases r with
  |nil=>exact rfl
  |cons x r=>show 0*(x:Int)+fj (nj i) r=(JD r i:Int);rw[ih r,zero_mul,ZR]
theorem u5:∀(i:Nat) (r:List Int),eQ (nj i) r=JE r i:=by
 intro i r
 induction i generalizing r with
 |zero=>
  cases r with
  |nil=>exact rfl
  |cons x r=>show 1*x+0=x;rw[one_mul,ZY]
 |succ i ih=>
  cases r with
  |nil=>exact rfl
  |cons x r=>show 0*x+eQ (nj i) r=JE r i;rw[ih r,zero_mul,ZR]
theorem LF.d_add (ns:List Nat) (is:List Int) (x y:LF):(x.add y).d ns is=x.d ns is+y.d ns is:=by
 show x.k+y.k+fj (nh x.n y.n) ns+eQ (nh x.i y.i) is=(x.k+fj x.n ns+eQ x.i is)+(y.k+fj y.n ns+eQ y.i is)
 rw[yr,yu,Kp x.k];exact Kp _ _ _ _
theorem LF.d_mul (ns:List Nat) (is:List Int) (k:Int) (x:LF):(x.mul k).d ns is=k*x.d ns is:=by
 show k*x.k+fj (oN k x.n) ns+eQ (oN k x.i) is=k*(x.k+fj x.n ns+eQ x.i is)
 rw[yq,yt,Int.mul_add,Int.mul_add]
theorem LF.d_sub (ns:List Nat) (is:List Int) (x y:LF):(x.add (y.mul (-1))).d ns is=x.d ns is-y.d ns is:=by
 rw[LF.d_add,LF.d_mul,m1,Int.sub_eq_add_neg]
theorem NE.l_d (ns:List Nat) (is:List Int):∀e:NE,e.l.d ns is=(e.d ns:Int)
 |.v i=>by show 0+fj (nj i) ns+0=(JD ns i:Int);rw[u3,ZR,ZY]
 |.c n=>by show(n:Int)+0+0=n;rw[ZY,ZY]
 |.a x y=>by show(x.l.add y.l).d ns is=((x.d ns+y.d ns:Nat):Int);rw[LF.d_add,NE.l_d ns is x,NE.l_d ns is y,ZV]
 |.m k x=>by show(x.l.mul k).d ns is=((k*x.d ns:Nat):Int);rw[LF.d_mul,NE.l_d ns is x,Int.natCast_mul]
theorem IE.l_d (ns:List Nat) (is:List Int):∀e:IE,e.l.d ns is=e.d ns is
 |.v i=>by show 0+0+eQ (nj i) is=JE is i;rw[u5,ZY,ZR]
 |.c z=>by show z+0+0=z;rw[ZY,ZY]
 |.n x=>NE.l_d ns is x
 |.a x y=>by show(x.l.add y.l).d ns is=x.d ns is+y.d ns is;rw[LF.d_add,IE.l_d ns is x,IE.l_d ns is y]
 |.s x y=>by show(x.l.add (y.l.mul (-1))).d ns is=x.d ns is-y.d ns is;rw[LF.d_sub,IE.l_d ns is x,IE.l_d ns is y]
 |.g x=>by show(x.l.mul (-1)).d ns is = - x.d ns is;rw[LF.d_mul,IE.l_d ns is x,m1]
 |.m k x=>by show(x.l.mul k).d ns is=k*x.d ns is;rw[LF.d_mul,IE.l_d ns is x]
inductive Cn where|i (x y:IE)|j (x y:IE)|w (x y:NE)|e (x y:NE)
noncomputable abbrev Cn.le (x y:IE):Cn:=.i x y
noncomputable abbrev Cn.eq (x y:IE):Cn:=.j x y
noncomputable abbrev Cn.nle (x y:NE):Cn:=.w x y
noncomputable abbrev Cn.neq (x y:NE):Cn:=.e x y
noncomputable abbrev Gl (x y:NE):Int×Cn:=(1,.w x y)
noncomputable abbrev Ge (x y:NE):Int×Cn:=(1,.e x y)
noncomputable abbrev Gf (x y:NE):Int×Cn:=(-1,.e x y)
noncomputable abbrev Gi (x y:IE):Int×Cn:=(1,.i x y)
noncomputable abbrev Gj (x y:IE):Int×Cn:=(1,.j x y)
noncomputable abbrev Gk (x y:IE):Int×Cn:=(-1,.j x y)
noncomputable abbrev Gp (x y:NE):Int×Int×Cn:=(1,-1,.e x y)
noncomputable abbrev Gq (x y:NE):Int×Int×Cn:=(-1,1,.e x y)
noncomputable abbrev Gr (x y:IE):Int×Int×Cn:=(1,-1,.j x y)
def Cn.d (ns:List Nat) (is:List Int):Cn->Prop
 |.i x y=>x.d ns is<=y.d ns is
 |.j x y=>x.d ns is=y.d ns is
 |.w x y=>x.d ns<=y.d ns
 |.e x y=>x.d ns=y.d ns
noncomputable def Cn.l:Cn->LF
 |.i x y=>y.l.add (x.l.mul (-1))
 |.j x y=>y.l.add (x.l.mul (-1))
 |.w x y=>y.l.add (x.l.mul (-1))
 |.e x y=>y.l.add (x.l.mul (-1))
noncomputable def Cn.ok (k:Int):Cn->Bool
 |.i _ _=>decide (0<=k)
 |.j _ _=>true
 |.w _ _=>decide (0<=k)
 |.e _ _=>true
theorem Cn.nn {is:List Int} {k:Int} {c:Cn} (h:c.d ns is) (o:c.ok k=true):0<=(c.l.mul k).d ns is:=by
 rw[LF.d_mul];cases c with
 |i x y=>
  show 0<=k*(y.l.add (x.l.mul (-1))).d ns is
  rw[LF.d_sub,IE.l_d,IE.l_d];exact mul_nonneg (YZ o) (Int.sub_nonneg_of_le h)
 |j x y=>
  show 0<=k*(y.l.add (x.l.mul (-1))).d ns is
  rw[LF.d_sub,IE.l_d,IE.l_d,show x.d ns is=y.d ns is from h,Int.sub_self,mul_zero];exact Int.le_refl _
 |w x y=>
  show 0<=k*(y.l.add (x.l.mul (-1))).d ns is
  rw[LF.d_sub,NE.l_d,NE.l_d];exact mul_nonneg (YZ o) (Int.sub_nonneg_of_le (ofNat_le.mpr h))
 |e x y=>
  show 0<=k*(y.l.add (x.l.mul (-1))).d ns is
  rw[LF.d_sub,NE.l_d,NE.l_d,show x.d ns=y.d ns from h,Int.sub_self,mul_zero];exact Int.le_refl _
noncomputable def oW:List (Int×Cn)->LF
 |[]=>⟨0,[],[]⟩
 |(k,c)::cs=>(c.l.mul k).add (oW cs)
noncomputable def Gz:List (Int×Cn)->Bool
 |[]=>true
 |(k,c)::cs=>c.ok k&&Gz cs
noncomputable def LF.neg (x:LF):Bool:=decide (x.k<0)&&(x.n.all (λz=>decide (z<=0))&&x.i.all λz=>decide (z=0))
theorem Bp:∀(a:List Int) (r:List Nat),(a.all λz=>decide (z<=0))=true->fj a r<=0:=by
 intro a r
 induction a generalizing r with
 |nil=>exact @λaa=>Int.le_refl 0
 |cons x a ih=>
  cases r with
  |nil=>exact @λaa=>Int.le_refl 0
  |cons z r=>
    intro h;rw[all_cons,Z8,Y4]at h;exact Int.add_le_add (Int.mul_nonpos_of_nonpos_of_nonneg h.1 (ZU z)) (ih r h.2)
theorem u4:∀(a r:List Int),(a.all λz=>decide (z=0))=true->eQ a r=0:=by
 intro a r
 induction a generalizing r with
 |nil=>exact @λaa=>rfl
 |cons x a ih=>
  cases r with
  |nil=>exact @λaa=>rfl
  |cons z r=>
    intro h;rw[all_cons,Z8,Y4]at h;show x*z+eQ a r=0
    rw[ih r h.2,h.1,zero_mul,ZY]
theorem LF.neg_d {is:List Int} {x:LF} (h:x.neg=true):x.d ns is<0:=by
 unfold LF.neg at h;rw[Z8,Z8,Y4]at h;have h1:=Bp x.n ns h.2.1;have h2:=u4 x.i is h.2.2;unfold LF.d;omega
def imp (ns:List Nat) (is:List Int) (G:Prop):List (Int×Cn)->Prop
 |[]=>G
 |(_,c)::cs=>c.d ns is->imp ns is G cs
theorem xz {is:List Int} {G:Prop}:∀(cs:List (Int×Cn)) (acc:Int),Gz cs=true->0<=acc->(acc+(oW cs).d ns is<0\/(0<=acc+(oW cs).d ns is->G))->imp ns is G cs:=by
 intro cs
 induction cs with
 |nil=>
  intro acc _ h0 h;have e:(oW []).d ns is=0:=by show(0:Int)+0+0=0;rfl
  rw[e,ZY]at h;exact h.elim (λq=>absurd h0 (Int.not_le.mpr q)) λq=>q h0
 |cons p0 cs ih=>
  obtain⟨k,c⟩:=p0;intro acc ho h0 h;intro hc;rw[show Gz ((k,c)::cs)=(c.ok k&&Gz cs) from rfl,Z8]at ho;have n:=Cn.nn (k:=k) hc ho.1;refine ih (acc+(c.l.mul k).d ns is) ho.2 (by omega) ?_;have e:(oW ((k,c)::cs)).d ns is=(c.l.mul k).d ns is+(oW cs).d ns is:=LF.d_add ..;rw[e,<- Int.add_assoc]at h;exact h
noncomputable def Cn.den:Cn->LF
 |.i x y=>(x.l.add (y.l.mul (-1))).add ⟨-1,[],[]⟩
 |.w x y=>(x.l.add (y.l.mul (-1))).add ⟨-1,[],[]⟩
 |_=>⟨0,[],[]⟩
noncomputable def Cn.isLe:Cn->Bool
 |.i _ _=>true
 |.w _ _=>true
 |_=>false
theorem GZ {a b:Int} (h:a-b + -1<0):a<=b:=by omega
theorem Cn.den_d {is:List Int} {c:Cn} (hl:c.isLe=true) (h:c.den.d ns is<0):c.d ns is:=by
 have key:∀x y:LF,((x.add (y.mul (-1))).add ⟨-1,[],[]⟩).d ns is=x.d ns is-y.d ns is + -1:=λx y=>by
  rw[LF.d_add,LF.d_sub];rfl
 cases c with
 |i x y=>
  have h:((x.l.add (y.l.mul (-1))).add ⟨-1,[],[]⟩).d ns is<0:=h;rw[key,IE.l_d,IE.l_d]at h;exact GZ h
 |w x y=>
  have h:((x.l.add (y.l.mul (-1))).add ⟨-1,[],[]⟩).d ns is<0:=h;rw[key,NE.l_d,NE.l_d]at h;exact ofNat_le.mp (GZ h)
 |j x y=>cases hl
 |e x y=>cases hl
noncomputable def chk (g:Int) (G:Cn) (cs:List (Int×Cn)):Bool:=decide (0<=g)&&(G.isLe&&(Gz cs&&((G.den.mul g).add (oW cs)).neg))
theorem bC (ns:List Nat) (is:List Int) (g:Int) (G:Cn) (cs:List (Int×Cn)) (h:chk g G cs=true):imp ns is (G.d ns is) cs:=by
 unfold chk at h;rw[Z8,Z8,Z8,Y4]at h;obtain⟨h0,h1,h2,h3⟩:=h;refine xz cs 0 h2 (Int.le_refl _) (.inr λhs=>?_);rw[ZR]at hs;have hn:=LF.neg_d (ns:=ns) (is:=is) h3;rw[LF.d_add,LF.d_mul]at hn;refine Cn.den_d h1 (Int.not_le.mp λq=>?_);have:=mul_nonneg h0 q
 omega
noncomputable def Cn.fw:Cn->Cn
 |.i x y=>.i x y
 |.j x y=>.i x y
 |.w x y=>.w x y
 |.e x y=>.w x y
noncomputable def Cn.bw:Cn->Cn
 |.i x y=>.i x y
 |.j x y=>.i y x
 |.w x y=>.w x y
 |.e x y=>.w y x
noncomputable def f1 (p:Int×Int×Cn):Int×Cn:=(p.1,p.2.2)
noncomputable def f2 (p:Int×Int×Cn):Int×Cn:=(p.2.1,p.2.2)
theorem AU {is:List Int} {P Q R:Prop} (k:P->Q->R) (cs:List (Int×Int×Cn)):imp ns is P (cs.map f1)->imp ns is Q (cs.map f2)->imp ns is R (cs.map f1):=by
 induction cs with
 |nil=>exact k
 |cons p cs ih=>exact λa b h=>ih (a h) (b h)
theorem KY (ns:List Nat) (is:List Int) (G:Cn) (cs:List (Int×Int×Cn)) (h:(chk 1 G.fw (cs.map f1)&&chk 1 G.bw (cs.map f2))=true):imp ns is (G.d ns is) (cs.map f1):=by
 rw[Z8]at h;refine AU ?_ cs (bC ns is 1 _ _ h.1) (bC ns is 1 _ _ h.2);cases G with
 |i x y=>exact λp aa=>p
 |j x y=>exact λp q=>ZX p q
 |w x y=>exact λp aa=>p
 |e x y=>exact λp q=>Zk p q
theorem Le (ns:List Nat) (G:Cn) (cs:List (Int×Int×Cn)) (h:(chk 1 G.fw (cs.map f1)&&chk 1 G.bw (cs.map f2))=true):imp ns [] (G.d ns []) (cs.map f1):=KY ns [] G cs h
theorem Ln (ns:List Nat) (G:Cn) (cs:List (Int×Cn)) (h:chk 1 G cs=true):imp ns [] (G.d ns []) cs:=bC ns [] 1 G cs h
theorem L1 (ns:List Nat) (a b c d:NE) (h:chk 1 (.w a b) [(1,.w c d)]=true):imp ns [] ((Cn.w a b).d ns []) [(1,.w c d)]:=Ln ns _ _ h
theorem L0 (ns:List Nat) (a b:NE) (h:chk 1 (.w a b) []=true):imp ns [] ((Cn.w a b).d ns []) []:=Ln ns _ _ h
theorem Li (is:List Int) (G:Cn) (cs:List (Int×Cn)) (h:chk 1 G cs=true):imp [] is (G.d [] is) cs:=bC [] is 1 G cs h
noncomputable def chkF (cs:List (Int×Cn)):Bool:=Gz cs&&(oW cs).neg
theorem jY (ns:List Nat) (is:List Int) (cs:List (Int×Cn)) (h:chkF cs=true):imp ns is False cs:=by
 unfold chkF at h;rw[Z8]at h;refine xz cs 0 h.1 (Int.le_refl _) (.inl ?_);rw[ZR];exact LF.neg_d h.2
theorem Lf (ns:List Nat) (cs:List (Int×Cn)) (h:chkF cs=true):imp ns [] False cs:=jY ns [] cs h
open PySem
theorem r5 (f:Kt D (Option D)) (cl:List Nat) (d:D) (ds:List D) (fr:Fm): @qm f cl (d::ds) fr=aT (f.run d (clr fr cl)) λr fr=>aT (@qm f cl ds fr) λrs fr=>match r with
  |none=>some (.ok rs,fr)
  |some x=>some (.ok (x::rs),fr):=rfl
theorem uM (f:Kt D dH) (cl:List Nat) (d:D) (ds:List D) (fr:Fm): @xN f cl (d::ds) fr=aT (f.run d (clr fr cl)) λc fr=>match c with
  |.next=>@xN f cl ds fr
  |.ret r=>some (.ok (.ret r),fr):=rfl
theorem FW (q:cA α): @du _ _ q ⟨λrs fr=>some (.ok rs,fr)⟩=q:=by rcases q with _|⟨_|_,_⟩<;>rfl
section
variable (c:cR) (fr:Fm)
theorem qd (k:Nat):ev c (.gl k) fr=match c.glob[k]? with
  |some d=>some (.ok (.fz d),fr)
  |none=>none:=rfl
theorem jH (i:Nat):ev c (.var i) fr=match fr[i]? with
  |some (.fz d)=>some (.ok (.fz d),fr)
  |some (.own d)=>some (.ok (.fz d),fr.set i (.fz d))
  |_=>none:=rfl
theorem mC (p:Pl):ev c (.pl p) fr=if ju fr p then some (.ok (.pl p),fr) else none:=rfl
theorem yg (es:List Ex):ev c (.tup es) fr=du (k:=⟨λrs fr=>nH fr ((b9 rs).map λds=>.fz (.tuple ds))⟩) (gr c es fr):=rfl
theorem tM (es:List Ex):ev c (.list es) fr=du (k:=⟨λrs fr=>nH fr ((b9 rs).map λds=>.own (.list ds))⟩) (gr c es fr):=rfl
theorem yi (o:lE) (a b:Ex):ev c (.op2 o a b) fr=du (k:=⟨λx fr=>du (k:=⟨λy fr=>match cj fr x,cj fr y with
  |some d,some e=>rg fr (op2 o d e)
  |_,_=>none⟩) (ev c b fr)⟩) (ev c a fr):=rfl
theorem yj (a:Ex):ev c (.neg a) fr=du (k:=⟨λx fr=>match bQ x with
  |some d=>nH fr ((wF d).map .fz)
  |none=>none⟩) (ev c a fr):=rfl
theorem rS (a:Ex):ev c (.not a) fr=du (k:=⟨λx fr=>match cj fr x with
  |some d=>some (.ok (.fz (.bool (!tD d))),fr)
  |none=>none⟩) (ev c a fr):=rfl
theorem rU (o:Cm) (a b:Ex):ev c (.cmp o a b) fr=du (k:=⟨λx fr=>du (k:=⟨λy fr=>match cj fr x,cj fr y with
  |some d,some e=>nH fr ((au o d e).map λb=>.fz (.bool b))
  |_,_=>none⟩) (ev c b fr)⟩) (ev c a fr):=rfl
theorem oc (o p:Cm) (a b e:Ex):ev c (.cmp2 o p a b e) fr=du (k:=⟨λx fr=>du (k:=⟨λy fr=>match bQ x,bQ y with
  |some d,some d'=>(match au o d d' with
   |none=>none
   |some t=>if t=true then du (k:=⟨λz fr=>match bQ z with
    |some GJ=>nH fr ((au p d' GJ).map λb=>.fz (.bool b))
    |none=>none⟩) (ev c e fr) else some (.ok (.fz (.bool false)),fr))
  |_,_=>none⟩) (ev c b fr)⟩) (ev c a fr):=rfl
theorem lb (es:List Ex):ev c (.and es) fr=jR c es fr:=rfl
theorem p8 (es:List Ex):ev c (.or es) fr=qf c es fr:=rfl
theorem rT (t a b:Ex):ev c (.ite t a b) fr=du (k:=⟨λx fr=>match cj fr x with
  |some d=>if tD d then du (k:=⟨λr fr=>match bQ r with
    |none=>none
    |some _=>some (.ok r,fr)⟩) (ev c a fr)
   else du (k:=⟨λr fr=>match bQ r with
    |none=>none
    |some _=>some (.ok r,fr)⟩) (ev c b fr)
  |none=>none⟩) (ev c t fr):=rfl
theorem yk (a i:Ex):ev c (.idx a i) fr=du (k:=⟨λx fr=>du (k:=⟨λy fr=>match cj fr x,bQ y with
  |some d,some e=>nH fr ((nX d e).map .fz)
  |_,_=>none⟩) (ev c i fr)⟩) (ev c a fr):=rfl
theorem yh (a lo hi:Ex):ev c (.slc a lo hi) fr=du (k:=⟨λx fr=>du (k:=⟨λy fr=>du (k:=⟨λz fr=>match cj fr x,bQ y,bQ z with
  |some d,some l,some h=>rg fr (vS d l h)
  |_,_,_=>none⟩) (ev c hi fr)⟩) (ev c lo fr)⟩) (ev c a fr):=rfl
theorem tP (f:Nat) (args:List Ex):ev c (.call f args) fr=du (k:=⟨λrs fr=>fI c f [] rs fr⟩) (gr c args fr):=rfl
theorem p9 (f:Nat) (as:List Nat) (args:List Ex):ev c (.mcall f as args) fr=du (k:=⟨λrs fr=>fI c f as rs fr⟩) (gr c args fr):=rfl
theorem qe (f:Nat) (args:List Ex) (e:Ex):ev c (.callw f args e) fr=du (k:=⟨λrs fr=>match b9 rs with
  |some ds=>du (k:=⟨λr fr=>fk c f ds r fr⟩) (ev c e fr)
  |none=>none⟩) (gr c args fr):=rfl
theorem rR (p:Pl):ev c (.pop p) fr=match cb fr p with
  |some o=>(match pc o with
   |some q=>(match we q with
    |some x=>some (.ok (.fz x.2),gg fr p (.list x.1))
    |none=>none)
   |none=>none)
  |none=>none:=rfl
theorem mD (b:Bi) (args:List Ex):ev c (.bi b args) fr=if c.hd&&b.loops then none else du (k:=⟨λrs fr=>match lI fr rs with
  |some ds=>rg fr (ke b ds)
  |none=>none⟩) (gr c args fr):=rfl
noncomputable def bH (cq:Ex) (t:Tgt) (ay:List Ex) (items:List D):cA (List D):=
 qm (f:=⟨λd fr=>match asgT c.pin fr t (.fz d) with
     |none=>none
     |some fr=>aT (dm c ay fr) λb fr=>if b then aT (ev c cq fr) λr fr=>nH fr ((bQ r).map some) else some (.ok none,fr)⟩) (aW t) items fr
theorem tO (cq:Ex) (t:Tgt) (it:iN) (b8 ay:List Ex):ev c (.comp cq t it b8 ay) fr=if c.hd then none else du (k:=⟨λrs fr=>match b9 rs with
  |none=>none
  |some ds=>match bG it ds with
   |none=>none
   |some items=>Jz (k:=⟨λds fr=>some (.ok (.own (.list ds)),fr)⟩) (aW t) (bH c fr cq t ay items)⟩) (gr c b8 fr):=rfl
theorem tN (ks:List Str) (es:List Ex) (i:Nat):ev c (.dsel ks es i) fr=du (k:=⟨λrs fr=>match b9 rs,fr[i]? with
  |some ds,some (.fz (.str x))=>nH fr ((mJ ks ds x).map .fz)
  |_,_=>none⟩) (gr c es fr):=rfl
theorem n9 (i:Nat) (yes no:List Str):ev c (.isx i yes no) fr=match fr[i]? with
  |some (.exc k)=>if yes.contains k=true then some (.ok (.fz (.bool true)),fr) else if no.contains k=true then some (.ok (.fz (.bool false)),fr) else none
  |_=>none:=rfl
theorem cP (cq:Ex) (t:Tgt) (ay:List Ex):bH c fr cq t ay []=some (.ok [],clr fr (aW t)):=rfl
theorem lq (cq:Ex) (t:Tgt) (ay:List Ex) (d:D) (ds:List D):bH c fr cq t ay (d::ds) =
  match asgT c.pin (clr fr (aW t)) t (.fz d) with
  |none=>none
  |some fr=>du (k:=⟨λb fr=>if b=true then du (k:=⟨λr fr=>match bQ r with
    |none=>none
    |some x=>du (k:=⟨λrs fr=>some (.ok (x::rs),fr)⟩) (bH c fr cq t ay ds)⟩) (ev c cq fr) else bH c fr cq t ay ds⟩) (dm c ay fr):=by
 unfold bH;refine(r5 _ _ _ _ _).trans ?_;dsimp only;cases asgT c.pin (clr fr (aW t)) t (.fz d) with
 |none=>rfl
 |some fr=>
  dsimp only[aT]
  rcases dm c ay fr with _|⟨_|b,fr⟩
  .rfl
  .rfl
  .rw[fq,fq]
   cases b with
   |false=>
    simp only[false_eq_true,if_false,fq];exact FW _
   |true=>
    simp only[if_true]
    rcases ev c cq fr with _|⟨_|r,fr⟩
    .rfl
    .rfl
    .rw[fq,fq]
     cases bQ r with
     |none=>rfl
     |some x=>rfl
theorem Bg:gr c [] fr=some (.ok [],fr):=rfl
theorem dj (e:Ex) (es:List Ex):gr c (e::es) fr=du (k:=⟨λr fr=>du (k:=⟨λrs fr=>some (.ok (r::rs),fr)⟩) (gr c es fr)⟩) (ev c e fr):=rfl
theorem gZ (e:Ex):jR c [e] fr=du (k:=⟨λr fr=>match bQ r with
  |none=>none
  |some _=>some (.ok r,fr)⟩) (ev c e fr):=rfl
theorem fW (e e':Ex) (es:List Ex):jR c (e::e'::es) fr=du (k:=⟨λr fr=>match bQ r with
   |none=>none
   |some d=>if tD d then jR c (e'::es) fr else some (.ok r,fr)⟩) (ev c e fr):=rfl
theorem i7 (e:Ex):qf c [e] fr=du (k:=⟨λr fr=>match bQ r with
  |none=>none
  |some _=>some (.ok r,fr)⟩) (ev c e fr):=rfl
theorem gY (e e':Ex) (es:List Ex):qf c (e::e'::es) fr=du (k:=⟨λr fr=>match bQ r with
   |none=>none
   |some d=>if tD d then some (.ok r,fr) else qf c (e'::es) fr⟩) (ev c e fr):=rfl
theorem i8 (e:Ex) (es:List Ex):dm c (e::es) fr=du (k:=⟨λr fr=>match cj fr r with
   |none=>none
   |some d=>if tD d then dm c es fr else some (.ok false,fr)⟩) (ev c e fr):=rfl
theorem kb (t:Tgt) (e:Ex):mB c (.asg t e) fr=if c.hd&&t.isTup then none else du (k:=⟨λr fr=>match asgT c.pin fr t r with
  |some fr=>some (.ok .next,fr)
  |none=>none⟩) (ev c e fr):=rfl
theorem p7 (p:Pl) (i e:Ex):mB c (.setI p i e) fr=du (k:=⟨λr fr=>if (cb fr p).isSome then du (k:=⟨λk fr=>match bQ r,bQ k,cb fr p with
  |some d,some k,some o=>(match zP o k d with
   |some o'=>some (.ok .next,gg fr p o')
   |none=>none)
  |_,_,_=>none⟩) (ev c i fr) else none⟩) (ev c e fr):=rfl
theorem tL (p:Pl) (e:Ex):mB c (.app p e) fr=if Ac (cb fr p) then du (k:=⟨λr fr=>match bQ r,cb fr p with
  |some d,some (.list xs)=>if xs.length<Sz then some (.ok .next,gg fr p (.list (xs++[d]))) else none
  |_,_=>none⟩) (ev c e fr) else none:=rfl
theorem tK (e:Ex):mB c (.exp e) fr=du (k:=⟨λaa fr=>some (.ok .next,fr)⟩) (ev c e fr):=rfl
theorem tI (t:Ex) (a b:List St):mB c (.iff t a b) fr=du (k:=⟨λx fr=>match cj fr x with
  |some d=>if tD d then c9 c a fr else c9 c b fr
  |none=>none⟩) (ev c t fr):=rfl
theorem tF (e:Ex):mB c (.ret e) fr=du (k:=⟨λr fr=>match r with
  |.pl _=>none
  |r=>some (.ok (.ret r),fr)⟩) (ev c e fr):=rfl
noncomputable def cU (t:Tgt) (body:List St) (cD:List Nat) (items:List D):cA dH:=
 xN (f:=⟨λd fr=>match asgT c.pin fr t (.fz d) with
     |none=>none
     |some fr=>c9 c body fr⟩) cD items fr
theorem tJ (t:Tgt) (it:iN) (b8:List Ex) (body:List St) (cD:List Nat):mB c (.for_ t it b8 body cD) fr=if c.hd then none else du (k:=⟨λrs fr=>match b9 rs with
  |none=>none
  |some ds=>match bG it ds with
   |none=>none
   |some items=>cU c fr t body cD items⟩) (gr c b8 fr):=rfl
theorem bN (t:Tgt) (body:List St) (cD:List Nat):cU c fr t body cD []=some (.ok .next,clr fr cD):=rfl
theorem ms (t:Tgt) (body:List St) (cD:List Nat) (d:D) (ds:List D):cU c fr t body cD (d::ds) =
  match asgT c.pin (clr fr cD) t (.fz d) with
  |none=>none
  |some fr=>du (k:=⟨λk fr=>match k with
   |.next=>cU c fr t body cD ds
   |.ret r=>some (.ok (.ret r),fr)⟩) (c9 c body fr):=by
 unfold cU;refine(uM _ _ _ _ _).trans ?_;dsimp only;cases asgT c.pin (clr fr cD) t (.fz d) with
 |none=>rfl
 |some fr=>rfl
noncomputable def vE (t:Ex) (body:List St) (cD:List Nat) (n:Nat):cA dH:=
 Kx (t:=⟨λaa fr=>aT (ev c t fr) λr fr=>match cj fr r with
   |some d=>some (.ok (tD d),fr)
   |none=>none⟩) (f:=⟨λaa fr=>c9 c body fr⟩) cD n fr
theorem tB (t:Ex) (body:List St) (cD:List Nat):mB c (.whl t body cD) fr=if c.hd then none else vE c fr t body cD Wz:=rfl
theorem oM (t:Ex) (body:List St) (cD:List Nat) (n:Nat):vE c fr t body cD (n+1) =
  du (k:=⟨λb fr=>match b with
   |true=>du (k:=⟨λk fr=>match k with
    |.next=>vE c fr t body cD n
    |.ret r=>some (.ok (.ret r),fr)⟩) (c9 c body fr)
   |false=>some (.ok .next,fr)⟩) (aT (ev c t (clr fr cD)) λr fr=>match cj fr r with
   |some d=>some (.ok (tD d),fr)
   |none=>none):=rfl
theorem mz (k:Str):mB c (.raise k) fr=if c.hd then none else some (.error k,fr):=rfl
noncomputable def Di (v:Nat) (m:cA dH):cA dH:=match m with
 |some (.ok k,fr)=>some (.ok k,fr.set v .no)
 |_=>none
noncomputable def Dh (yes:List Str) (v:Nat) (hand:List St) (m:cA dH):cA dH:=match m with
 |none=>none
 |some (.ok k,fr)=>some (.ok k,fr)
 |some (.error e,fr)=>if yes.contains e=true/\ ¬c.pin.contains v=true then Di v (c9 {c with hd:=true} hand (fr.set v (.exc e))) else none
theorem tC (body:List St) (yes:List Str) (v:Nat) (hand:List St):mB c (.try_ body yes v hand) fr=if c.hd then none else Dh c yes v hand (c9 c body fr):=rfl
theorem zq (yes:List Str) (v:Nat) (hand:List St) (k:dH):Dh c yes v hand (some (.ok k,fr))=some (.ok k,fr):=rfl
theorem oP (yes:List Str) (v:Nat) (hand:List St) (e:Str):Dh c yes v hand (some (.error e,fr))=if yes.contains e=true/\ ¬c.pin.contains v=true then Di v (c9 {c with hd:=true} hand (fr.set v (.exc e))) else none:=rfl
theorem zr (v:Nat) (k:dH):Di v (some (.ok k,fr))=some (.ok k,fr.set v .no):=rfl
theorem tE (p:Pl):mB c (.rev p) fr=match cb fr p with
  |some o=>(match D7 o with
   |some o'=>some (.ok .next,gg fr p o')
   |none=>none)
  |none=>none:=rfl
theorem tH (f:Nat) (as rb:List Nat) (args:List Ex):mB c (.mst f as rb args) fr=du (k:=⟨λrs fr=>if rb.any (c.pin.contains ·) then none else du (k:=⟨λaa fr=>some (.ok .next,fr)⟩) (fI c f as rs fr)⟩) (gr c args fr):=rfl
noncomputable def KR (as:List Nat) (m:cA dH):cA dH:=match m with
 |some (r,fr)=>some (r,clr fr (nx as))
 |none=>none
theorem tG (f:Nat) (as:List Nat) (args:List Ex) (body:List St):mB c (.new f as args body) fr=if c.hd then none else du (k:=⟨λrs fr=>match b9 rs with
  |none=>none
  |some ds=>(match c.call false f (fh as++ds.map .fz) with
   |some (o,aK)=>if Ib o then KR as (c9 c body (dJ fr as aK)) else none
   |none=>none)⟩) (gr c args fr):=rfl
theorem jG (s:St) (ss:List St):c9 c (s::ss) fr=du (k:=⟨λk fr=>match k with
  |.next=>c9 c ss fr
  |.ret r=>some (.ok (.ret r),fr)⟩) (mB c s fr):=by rfl
end
noncomputable def Fd (na:Nat) (args:List Slot) (m:cA dH):Option (Except Str Rv×List Slot):=
 match m with
 |none=>none
 |some (.error e,fr)=>some (.error e,dW na args fr)
 |some (.ok .next,fr)=>some (.ok (.fz .none),dW na args fr)
 |some (.ok (.ret r),fr)=>some (.ok r,dW na args fr)
theorem Em (a b:Int):op2 .add (.int a) (.int b)=some (.fz (.int (a+b))):=rfl
theorem wz (a b:Str):op2 .add (.str a) (.str b)=if a.cps.size+b.cps.size<=Sz then some (.fz (.str ⟨a.cps++b.cps⟩)) else none:=rfl
theorem wy (a b:List D):op2 .add (.tuple a) (.tuple b)=if a.length+b.length<=Sz then some (.fz (.tuple (a++b))) else none:=rfl
theorem El (a b:List D):op2 .add (.list a) (.list b)=if a.length+b.length<=Sz then some (.own (.list (a++b))) else none:=rfl
theorem jA (a b:Int):op2 .fdiv (.int a) (.int b)=if b≠0/\b.natAbs<2 ^ 64 then some (.fz (.int (a.fdiv b))) else none:=rfl
theorem gi (a b:Int):op2 .mod (.int a) (.int b)=if b=0 then none else some (.fz (.int (a.fmod b))):=rfl
theorem JB (a:D):ke .len [a]=(Aw a).map λ(n:Nat)=>.fz (.int n):=rfl
theorem JA (xs:List D):ke .sum [.list xs]=(qR 0 xs).map .fz:=rfl
theorem JC (a:Int):ke .abs [.int a]=some (.fz (.int a.natAbs)):=rfl
theorem dr (a b:Int):og (.int a) (.int b)=some (a==b):=rfl
theorem Fs (a b:List D):og (.list a) (.list b)=if lc (.list a) (.list b) then some (eqv (.list a) (.list b)) else none:=rfl
theorem z5 {rs:List Rv}:dU (.pl (.var i)::rs)=i::dU rs:=rfl
theorem ve {fr:Fm} {r:Rv} {rs:List Rv} {s:Slot} {ss aK:List Slot}:cO fr (r::rs) (s::ss) aK=if s.lent then(match aK with
   |o::os=>(match r with
    |.pl (.var i)=>cO (fr.set i o) rs ss os
    |_=>cO fr rs ss os)
   |[]=>fr) else cO fr rs ss aK:=rfl
theorem wq {s:Slot} {ss:List Slot} {fr:Fm}:gD (s::ss) fr=if s.lent then fr.headD .no::gD ss fr.tail else gD ss fr.tail:=rfl
theorem pg {k:Nat} {s:Slot} {ss:List Slot}:iC k (s::ss)=if s.lent then k::iC (k+1) ss else iC (k+1) ss:=rfl
theorem iB {fr:Fm} {r:Rv} {rs:List Rv}:lI fr (r::rs)=(match cj fr r,lI fr rs with
  |some d,some ds=>some (d::ds)
  |_,_=>none):=rfl
theorem iA {fr:Fm}:lI fr []=some []:=rfl
theorem iz {r:Rv} {rs:List Rv}:b9 (r::rs)=(match bQ r,b9 rs with
  |some d,some ds=>some (d::ds)
  |_,_=>none):=rfl
theorem jp:b9 []=some []:=rfl
theorem BM (xs:List D) (b:Bool):ke .count [.list xs,.bool b]=(fY xs).map λbs=>.fz (.int (bs.count b:Nat)):=rfl
theorem Ek (a:Str) (n:Int):op2 .mul (.str a) (.int n)=if -1000000000<=n/\n<=1000000000/\a.cps.size*n.toNat<=Sz then some (.fz (.str ⟨(rep n a.cps.toList).toArray⟩)) else none:=rfl
theorem e_strD (a b:Str):og (.str a) (.str b)=some (decide (a=b)):=by
 show some (a.cps.toList==b.cps.toList)=_
 congr 1
 obtain⟨⟨l⟩⟩:=a;obtain⟨⟨k⟩⟩:=b
 by_cases q:l=k
 .subst q;simp
 .have h1:¬((⟨⟨l⟩⟩:Str)=⟨⟨k⟩⟩):=by intro e;apply q;injection e with e;injection e
  rw[Y6 h1];simpa using q
structure Q (W:Type) where
 bad:W
 b:Option Bool->(Bool->W)->W
 t:Bool->(Bool->W)->W
 v:Option Rv->(Rv->W)->W
 d:Option D->(D->W)->W
 l:Option (List D)->(List D->W)->W
 lp:cA dH->W->(Except Str dH->Fm->W)->W
 cp:cA (List D)->W->(Except Str (List D)->Fm->W)->W
 c:Option (Except Str Rv×List Slot)->(Except Str Rv->List Slot->W)->W
section
variable {W:Type}
noncomputable def up {α β:Type} (k:Except Str β->Fm->W) (f:α->Fm->W):Except Str α->Fm->W
 |.error e,fr=>k (.error e) fr
 |.ok a,fr=>f a fr
noncomputable def dR {α:Type} (q:Q W) (x:Option α) (f:α->W):W:=match x with
 |none=>q.bad
 |some a=>f a
noncomputable def hG (b:Bool) (x y:W):W:=match b with
 |true=>x
 |false=>y
noncomputable def iT:Fm->(Fm->W)->W
 |[],k=>k []
 |s::fr,k=>iT fr λfr=>k (s::fr)
noncomputable def Hu (q:Q W) (r:Rv) (x:W):W:=match r with
 |.pl _=>q.bad
 |_=>x
noncomputable def GQ (q:Q W) (s:Option Slot) (fr:Fm) (i:Nat) (k:Except Str Rv->Fm->W):W:=match s with
 |some (.fz d)=>k (.ok (.fz d)) fr
 |some (.own d)=>iT (fr.set i (.fz d)) λfr=>k (.ok (.fz d)) fr
 |_=>q.bad
noncomputable def im (k:Except Str (List D)->Fm->W) (r:Option D):Except Str (List D)->Fm->W:=up k λrs fr=>match r with
 |none=>k (.ok rs) fr
 |some x=>k (.ok (x::rs)) fr
noncomputable def yy (q:Q W) (one:D->Fm->(Except Str (Option D)->Fm->W)->W) (x:List D->Fm->cA (List D)) (cl:List Nat):List D->Fm->(Except Str (List D)->Fm->W)->W
 |[],fr,k=>k (.ok []) (clr fr cl)
 |d::ds,fr,k=>iT (clr fr cl) λfr=>one d fr (up k λr fr=>q.cp (x ds fr) (yy q one x cl ds fr (im k r)) (im k r))
noncomputable def Fb (q:Q W) (x:Fm->cA dH) (u:Fm->W) (k:Except Str dH->Fm->W):Except Str dH->Fm->W
 |.error e,fr=>k (.error e) fr
 |.ok .next,fr=>q.lp (x fr) (u fr) k
 |.ok (.ret r),fr=>k (.ok (.ret r)) fr
noncomputable def Fa (q:Q W) (one:D->Fm->(Except Str dH->Fm->W)->W) (x:List D->Fm->cA dH) (cl:List Nat):List D->Fm->(Except Str dH->Fm->W)->W
 |[],fr,k=>k (.ok .next) (clr fr cl)
 |d::ds,fr,k=>iT (clr fr cl) λfr=>one d fr (Fb q (x ds) (λfr=>Fa q one x cl ds fr k) k)
noncomputable def H9 (q:Q W) (s:Option Slot) (yes no:List Str) (k:Bool->W):W:=match s with
 |some (.exc x)=>hG (yes.contains x) (k true) (hG (no.contains x) (k false) q.bad)
 |_=>q.bad
noncomputable def CJ (q:Q W) (s:Option Slot) (ks:List Str) (ds:List D) (k:D->W):W:=match s with
 |some (.fz (.str x))=>q.d (mJ ks ds x) k
 |_=>q.bad
noncomputable def tR (q:Q W) (c:cR) (f:Nat) (as:List Nat) (rs:List Rv) (fr:Fm) (k:Except Str Rv->Fm->W):W:=
 dR q (cK fr rs) λss=>hG (decide (as++dU rs).Nodup) (q.c (c.call c.hd f (er fr as++ss)) λr aK=>iT (cO (dJ fr as aK) rs ss (aK.drop as.length)) λfr=>
   up k (λr fr=>dR q (bQ r) λaa=>k (.ok r) fr) r fr) q.bad
noncomputable def FE (q:Q W) (c:cR) (f:Nat) (ds:List D) (r:Rv) (fr:Fm) (k:Except Str Rv->Fm->W):W:=match r with
 |.own d=>q.c (c.call c.hd f (ds.map .fz++[.own d])) λr aa=>up k (λr fr=>dR q (bQ r) λaa=>k (.ok r) fr) r fr
 |_=>q.bad
mutual
noncomputable def wp (q:Q W) (c:cR):Ex->Fm->(Except Str Rv->Fm->W)->W
 |.lit d,fr,k=>k (.ok (.fz d)) fr
 |.gl i,fr,k=>dR q c.glob[i]? λd=>k (.ok (.fz d)) fr
 |.var i,fr,k=>GQ q fr[i]? fr i k
 |.pl p,fr,k=>hG (ju fr p) (k (.ok (.pl p)) fr) q.bad
 |.tup es,fr,k=>t7 q c es fr (up k λrs fr=>dR q (b9 rs) λds=>k (.ok (.fz (.tuple ds))) fr)
 |.list es,fr,k=>t7 q c es fr (up k λrs fr=>dR q (b9 rs) λds=>k (.ok (.own (.list ds))) fr)
 |.op2 o a b,fr,k=>wp q c a fr (up k λx fr=>wp q c b fr (up k λy fr=>dR q (cj fr x) λd=>dR q (cj fr y) λe=>q.v (op2 o d e) λr=>Hu q r (k (.ok r) fr)))
 |.neg a,fr,k=>wp q c a fr (up k λx fr=>dR q (bQ x) λd=>dR q (wF d) λe=>k (.ok (.fz e)) fr)
 |.not a,fr,k=>wp q c a fr (up k λx fr=>dR q (cj fr x) λd=>q.t (tD d) λb=>k (.ok (.fz (.bool (!b)))) fr)
 |.cmp o a b,fr,k=>wp q c a fr (up k λx fr=>wp q c b fr (up k λy fr=>dR q (cj fr x) λd=>dR q (cj fr y) λe=>q.b (au o d e) λb=>k (.ok (.fz (.bool b))) fr))
 |.cmp2 o p a b e,fr,k=>wp q c a fr (up k λx fr=>wp q c b fr (up k λy fr=>dR q (bQ x) λd=>dR q (bQ y) λd'=>q.b (au o d d') λt=>
   q.t t λt=>hG t (wp q c e fr (up k λz fr=>dR q (bQ z) λGJ=>q.b (au p d' GJ) λb=>k (.ok (.fz (.bool b))) fr)) (k (.ok (.fz (.bool false))) fr)))
 |.and es,fr,k=>Ku q c es fr k
 |.or es,fr,k=>Ks q c es fr k
 |.ite t a b,fr,k=>wp q c t fr (up k λx fr=>dR q (cj fr x) λd=>q.t (tD d) λt=>hG t
   (wp q c a fr (up k λr fr=>dR q (bQ r) λaa=>k (.ok r) fr)) (wp q c b fr (up k λr fr=>dR q (bQ r) λaa=>k (.ok r) fr)))
 |.idx a i,fr,k=>wp q c a fr (up k λx fr=>wp q c i fr (up k λy fr=>dR q (cj fr x) λd=>dR q (bQ y) λe=>q.d (nX d e) λr=>k (.ok (.fz r)) fr))
 |.slc a lo hi,fr,k=>wp q c a fr (up k λx fr=>wp q c lo fr (up k λy fr=>wp q c hi fr (up k λz fr=>
   dR q (cj fr x) λd=>dR q (bQ y) λl=>dR q (bQ z) λh=>q.v (vS d l h) λr=>Hu q r (k (.ok r) fr))))
 |.call f args,fr,k=>t7 q c args fr (up k λrs fr=>tR q c f [] rs fr k)
 |.mcall f as args,fr,k=>t7 q c args fr (up k λrs fr=>tR q c f as rs fr k)
 |.callw f args e,fr,k=>t7 q c args fr (up k λrs fr=>dR q (b9 rs) λds=>wp q c e fr (up k λr fr=>FE q c f ds r fr k))
 |.pop p,fr,k=>dR q (cb fr p) λo=>q.d (pc o) λx=>dR q (we x) λx=>iT (gg fr p (.list x.1)) λfr=>k (.ok (.fz x.2)) fr
 |.bi b args,fr,k=>hG (c.hd&&b.loops) q.bad (t7 q c args fr (up k λrs fr=>dR q (lI fr rs) λds=>q.v (ke b ds) λr=>Hu q r (k (.ok r) fr)))
 |.comp cq t it b8 ay,fr,k=>hG c.hd q.bad (t7 q c b8 fr (up k λrs fr=>dR q (b9 rs) λds=>q.l (bG it ds) λitems=>
   let k':Except Str (List D)->Fm->W:=λo fr=>match o with
    |.error e=>iT (clr fr (aW t)) λfr=>k (.error e) fr
    |.ok ds=>k (.ok (.own (.list ds))) fr
   q.cp (bH c fr cq t ay items) (yy q (λd fr k=>dR q (asgT c.pin fr t (.fz d)) λfr=>iT fr λfr=>Gx q c ay fr (up k λb fr=>hG b (wp q c cq fr (up k λr fr=>dR q (bQ r) λx=>k (.ok (some x)) fr)) (k (.ok none) fr)))
    (λds fr=>bH c fr cq t ay ds) (aW t) items fr k') k'))
 |.isx i yes no,fr,k=>H9 q fr[i]? yes no λb=>k (.ok (.fz (.bool b))) fr
 |.dsel ks es i,fr,k=>t7 q c es fr (up k λrs fr=>dR q (b9 rs) λds=>CJ q fr[i]? ks ds λd=>k (.ok (.fz d)) fr)
noncomputable def t7 (q:Q W) (c:cR):List Ex->Fm->(Except Str (List Rv)->Fm->W)->W
 |[],fr,k=>k (.ok []) fr
 |e::es,fr,k=>wp q c e fr (up k λr fr=>t7 q c es fr (up k λrs fr=>k (.ok (r::rs)) fr))
noncomputable def Ku (q:Q W) (c:cR):List Ex->Fm->(Except Str Rv->Fm->W)->W
 |[],_,_=>q.bad
 |e::es,fr,k=>wp q c e fr (up k λr fr=>dR q (bQ r) λd=>match es with
   |[]=>k (.ok r) fr
   |_::_=>q.t (tD d) λb=>hG b (Ku q c es fr k) (k (.ok r) fr))
noncomputable def Ks (q:Q W) (c:cR):List Ex->Fm->(Except Str Rv->Fm->W)->W
 |[],_,_=>q.bad
 |e::es,fr,k=>wp q c e fr (up k λr fr=>dR q (bQ r) λd=>match es with
   |[]=>k (.ok r) fr
   |_::_=>q.t (tD d) λb=>hG b (k (.ok r) fr) (Ks q c es fr k))
noncomputable def Gx (q:Q W) (c:cR):List Ex->Fm->(Except Str Bool->Fm->W)->W
 |[],fr,k=>k (.ok true) fr
 |e::es,fr,k=>wp q c e fr (up k λr fr=>dR q (cj fr r) λd=>q.t (tD d) λb=>hG b (Gx q c es fr k) (k (.ok false) fr))
end
mutual
noncomputable def wpS (q:Q W) (c:cR):St->Fm->(Except Str dH->Fm->W)->W
 |.asg t e,fr,k=>hG (c.hd&&t.isTup) q.bad (wp q c e fr (up k λr fr=>dR q (asgT c.pin fr t r) λfr=>iT fr λfr=>k (.ok .next) fr))
 |.setI p i e,fr,k=>wp q c e fr (up k λr fr=>hG (cb fr p).isSome (wp q c i fr (up k λx fr=>dR q (bQ r) λd=>dR q (bQ x) λx=>dR q (cb fr p) λo=>
   q.d (zP o x d) λo'=>iT (gg fr p o') λfr=>k (.ok .next) fr)) q.bad)
 |.app p e,fr,k=>hG (Ac (cb fr p)) (wp q c e fr (up k λr fr=>dR q (bQ r) λd=>match cb fr p with
  |some (.list xs)=>q.t (decide (xs.length<Sz)) λb=>hG b (iT (gg fr p (.list (xs++[d]))) λfr=>k (.ok .next) fr) q.bad
  |_=>q.bad)) q.bad
 |.exp e,fr,k=>wp q c e fr (up k λaa fr=>k (.ok .next) fr)
 |.iff t a b,fr,k=>wp q c t fr (up k λx fr=>dR q (cj fr x) λd=>q.t (tD d) λt=>hG t (jo q c a fr k) (jo q c b fr k))
 |.ret e,fr,k=>wp q c e fr (up k λr fr=>Hu q r (k (.ok (.ret r)) fr))
 |.for_ t it b8 body cD,fr,k=>hG c.hd q.bad (t7 q c b8 fr (up k λrs fr=>dR q (b9 rs) λds=>q.l (bG it ds) λitems=>
   q.lp (cU c fr t body cD items) (Fa q (λd fr k=>dR q (asgT c.pin fr t (.fz d)) λfr=>iT fr λfr=>jo q c body fr k) (λds fr=>cU c fr t body cD ds) cD items fr k) k))
 |.whl t body cD,fr,k=>hG c.hd q.bad (q.lp (vE c fr t body cD Wz) q.bad k)
 |.raise x,fr,k=>hG c.hd q.bad (k (.error x) fr)
 |.try_ body yes v hand,fr,k=>hG c.hd q.bad (jo q c body fr λo fr=>match o with
  |.ok x=>k (.ok x) fr
  |.error e=>hG (yes.contains e) (hG (c.pin.contains v) q.bad (iT (fr.set v (.exc e)) λfr=>jo q {c with hd:=true} hand fr λo fr=>match o with
   |.ok x=>iT (fr.set v .no) λfr=>k (.ok x) fr
   |.error _=>q.bad)) q.bad)
 |.no,_,_=>q.bad
 |.rev p,fr,k=>dR q (cb fr p) λo=>q.d (D7 o) λo=>iT (gg fr p o) λfr=>k (.ok .next) fr
 |.mst f as rb args,fr,k=>t7 q c args fr (up k λrs fr=>hG (rb.any (c.pin.contains ·)) q.bad (tR q c f as rs fr (up k λaa fr=>k (.ok .next) fr)))
 |.new f as args body,fr,k=>hG c.hd q.bad (t7 q c args fr (up k λrs fr=>dR q (b9 rs) λds=>q.c (c.call false f (fh as++ds.map .fz)) λr aK=>hG (Ib r) (iT (dJ fr as aK) λfr=>jo q c body fr λo fr=>iT (clr fr (nx as)) λfr=>k o fr) q.bad))
noncomputable def jo (q:Q W) (c:cR):List St->Fm->(Except Str dH->Fm->W)->W
 |[],fr,k=>k (.ok .next) fr
 |s::ss,fr,k=>wpS q c s fr (up k λr fr=>match r with
  |.next=>jo q c ss fr k
  |.ret r=>k (.ok (.ret r)) fr)
end
noncomputable def Mu (q:Q W) (c:cR) (t:Ex) (body:List St) (cD:List Nat) (n:Nat) (fr:Fm) (k:Except Str dH->Fm->W):W:=
 iT (clr fr cD) λfr=>wp q c t fr λo fr=>match o with
  |.error e=>k (.error e) fr
  |.ok x=>dR q (cj fr x) λd=>q.t (tD d) λb=>hG b (jo q c body fr (Fb q (λfr=>vE c fr t body cD n) (λaa=>q.bad) k)) (k (.ok .next) fr)
noncomputable def Dd (q:Q W) (c:cR) (t:Tgt) (body:List St) (cD:List Nat) (items:List D) (fr:Fm) (k:Except Str dH->Fm->W):W:=
 Fa q (λd fr k=>dR q (asgT c.pin fr t (.fz d)) λfr=>iT fr λfr=>jo q c body fr k) (λds fr=>cU c fr t body cD ds) cD items fr k
noncomputable def ki (q:Q W) (c:cR) (cq:Ex) (t:Tgt) (ay:List Ex) (items:List D) (fr:Fm) (k:Except Str (List D)->Fm->W):W:=
 yy q (λd fr k=>dR q (asgT c.pin fr t (.fz d)) λfr=>iT fr λfr=>Gx q c ay fr (up k λb fr=>hG b (wp q c cq fr (up k λr fr=>dR q (bQ r) λx=>k (.ok (some x)) fr)) (k (.ok none) fr)))
    (λds fr=>bH c fr cq t ay ds) (aW t) items fr k
noncomputable def NB (q:Q W) (P:Pr) (n:Nat) (hd:Bool) (f:Nat) (args:List Slot) (k:Option (Except Str Rv×List Slot)->W):W:=
 dR q P.fns[f]? λfn=>hG (decide (args.length=fn.np)) (iT (args++replicate (fn.nv-fn.np) .no) λfr=>jo q ⟨P.glob,cF P n,eW fn.na fn.rb args,hd⟩ fn.body fr λo fr=>k (Fd fn.na args (some (o,fr)))) q.bad
end
inductive It where
 |b (b:Bool)|v (r:Rv)|d (d:D)|l (l:List D)
 |lp (o:Except Str dH×Fm)|cp (o:Except Str (List D)×Fm)|c (r:Except Str Rv×List Slot)
noncomputable abbrev Tape:=List (Nat×It)
noncomputable def It.gb:It->Option Bool|.b x=>some x|_=>none
noncomputable def It.gv:It->Option Rv|.v x=>some x|_=>none
noncomputable def It.gd:It->Option D|.d x=>some x|_=>none
noncomputable def It.gl:It->Option (List D)|.l x=>some x|_=>none
noncomputable def It.glp:It->Option (Except Str dH×Fm)|.lp x=>some x|_=>none
noncomputable def It.gcp:It->Option (Except Str (List D)×Fm)|.cp x=>some x|_=>none
noncomputable def It.gc:It->Option (Except Str Rv×List Slot)|.c x=>some x|_=>none
def ask {α:Type} (g:It->Option α) (x:Option α) (dflt:Tape->Prop) (f:α->Tape->Prop):Tape->Prop
 |[]=>dflt []
 |(n+1,i)::tp=>dflt ((n,i)::tp)
 |(0,i)::tp=>match g i with
  |none=>False
  |some y=>x=some y/\f y tp
noncomputable def rA {α:Type} (x:Option α) (f:α->Tape->Prop):Tape->Prop:=match x with
 |none=>λaa=>False
 |some a=>f a
def askT (x:Bool) (f:Bool->Tape->Prop):Tape->Prop
 |[]=>f x []
 |(n+1,i)::tp=>f x ((n,i)::tp)
 |(0,i)::tp=>match i with
  |.b y=>x=y/\f y tp
  |_=>False
noncomputable def qT:Q (Tape->Prop) where
 bad:=λaa=>False
 b x f:=ask It.gb x (rA x f) f
 t x f:=askT x f
 v x f:=ask It.gv x (rA x f) f
 d x f:=ask It.gd x (rA x f) f
 l x f:=ask It.gl x (rA x f) f
 lp x u f:=ask It.glp x u λo=>f o.1 o.2
 cp x u f:=ask It.gcp x u λo=>f o.1 o.2
 c x f:=ask It.gc x (rA x λo=>f o.1 o.2) λo=>f o.1 o.2
def jT {α:Type} (m:cA α) (k:Except Str α->Fm->Tape->Prop):Prop:= ∃o fr tp,m=some (o,fr)/\k o fr tp
theorem jT.ok {a:α} {fr:Fm} {k:Except Str α->Fm->Tape->Prop} {tp:Tape} (h:k (.ok a) fr tp):jT (some (.ok a,fr)) k:=⟨_,_,_,rfl,h⟩
theorem jT.bind {m:cA α} {k:Except Str β->Fm->Tape->Prop} {f:α->Fm->Tape->Prop} {g:Kt α β}
  (h:jT m (up k f)) (H:∀a fr tp,f a fr tp->jT (g.run a fr) k):jT (du m) k:=by
 obtain⟨o,fr,tp,rfl,h⟩:=h;cases o with
 |error e=>exact⟨_,_,tp,rfl,h⟩
 |ok a=>exact H a fr tp h
theorem jT.bind' {m:cA α} {k:Except Str β->Fm->Tape->Prop} {k':Except Str α->Fm->Tape->Prop} {g:Kt α β}
  (h:jT m k') (He:∀e fr tp,k' (.error e) fr tp->k (.error e) fr tp) (H:∀a fr tp,k' (.ok a) fr tp->jT (g.run a fr) k):jT (du m) k:=by
 obtain⟨o,fr,tp,rfl,h⟩:=h;cases o with
 |error e=>exact⟨_,_,tp,rfl,He _ _ _ h⟩
 |ok a=>exact H a fr tp h
theorem cu {W:Type}:∀(fr:Fm) (k:Fm->W),iT fr k=k fr:=by
 intro fr k
 induction fr generalizing k with
 |nil=>exact rfl
 |cons s fr ih=>exact ih _
theorem oK {x:Option α} {f:α->Tape->Prop} {tp:Tape} (h:dR qT x f tp):∃a,x=some a/\f a tp:=by
 cases x with
 |none=>exact h.elim
 |some a=>exact⟨a,rfl,h⟩
theorem AM {x:Option α} {f:α->Tape->Prop} {tp:Tape} (h:rA x f tp):∃a tp,x=some a/\f a tp:=by
 cases x with
 |none=>exact h.elim
 |some a=>exact⟨a,tp,rfl,h⟩
theorem iI {g:It->Option α} {x:Option α} {u:Tape->Prop} {f:α->Tape->Prop} {tp:Tape} (h:ask g x u f tp):(∃tp,u tp)\/ ∃a tp,x=some a/\f a tp:=by
 match tp,h with
 |[],h=>exact .inl ⟨_,h⟩
 |(n+1,i)::tp,h=>exact .inl ⟨_,h⟩
 |(0,i)::tp,h=>
  have h:(match g i with|none=>False|some y=>x=some y/\f y tp):=h;cases hg:g i with
  |none=>rw[hg]at h;exact h.elim
  |some y=>rw[hg]at h;exact .inr ⟨y,tp,h⟩
theorem bW {g:It->Option α} {x:Option α} {f:α->Tape->Prop} {tp:Tape} (h:ask g x (rA x f) f tp):∃a tp,x=some a/\f a tp:=by
 rcases iI h with⟨tp,h⟩|h
 .exact AM h
 .exact h
theorem eA {x:Bool} {f:Bool->Tape->Prop} {tp:Tape} (h:qT.t x f tp):∃tp,f x tp:=by
 have h:askT x f tp:=h
 match tp,h with
 |[],h=>exact⟨_,h⟩
 |(n+1,i)::tp,h=>exact⟨_,h⟩
 |(0,.b y)::tp,h=>obtain⟨rfl,h⟩:=h;exact⟨_,h⟩
 |(0,.v _)::tp,h|(0,.d _)::tp,h|(0,.l _)::tp,h|(0,.lp _)::tp,h|(0,.cp _)::tp,h|(0,.c _)::tp,h=>exact h.elim
theorem qW {r:Rv} {x:Tape->Prop} {tp:Tape} (h:Hu qT r x tp):(∀fr,rg fr (some r)=some (.ok r,fr))/\x tp:=by
 cases r with
 |pl p=>exact h.elim
 |fz d=>exact⟨λaa=>rfl,h⟩
 |own d=>exact⟨λaa=>rfl,h⟩
theorem jf {b:Bool} {x:Tape->Prop} {tp:Tape} (h:hG b x qT.bad tp):b=true/\x tp:=by
 cases b with
 |true=>exact⟨rfl,h⟩
 |false=>exact h.elim
theorem io {b:Bool} {x:Tape->Prop} {tp:Tape} (h:hG b qT.bad x tp):b=false/\x tp:=by
 cases b with
 |true=>exact h.elim
 |false=>exact⟨rfl,h⟩
theorem tx {c:cR} {t:Tgt} {body:List St} (H:∀fr k tp,jo qT c body fr k tp->jT (c9 c body fr) k):∀(items:List D) (fr:Fm) (k:Except Str dH->Fm->Tape->Prop) (tp:Tape),
  Dd qT c t body cD items fr k tp->jT (cU c fr t body cD items) k:=by
 intro ds fr k tp h
 induction ds generalizing fr k tp with
 |nil=>exact⟨_,_,tp,rfl,h⟩
 |cons d ds ih=>
  rw[ms];have h:iT (clr fr cD) (λfr=>dR qT (asgT c.pin fr t (.fz d)) λfr=>iT fr λfr=>jo qT c body fr (Fb qT (λfr=>cU c fr t body cD ds) (λfr=>Dd qT c t body cD ds fr k) k)) tp:=h;rw[cu]at h;obtain⟨Nk,h1,h⟩:=oK h;rw[cu]at h;obtain⟨o,OM,tp,h2,h⟩:=H _ _ _ h;rw[h1];dsimp only;rw[h2]
  match o,h with
  |.error _,h=>exact⟨_,_,tp,rfl,h⟩
  |.ok (.ret r),h=>exact⟨_,_,tp,rfl,h⟩
  |.ok .next,h=>
   rcases iI h with⟨tp,h⟩|⟨o,tp,h3,h⟩
   .exact ih OM k tp h
   .exact⟨o.1,o.2,tp,h3,h⟩
theorem qk {c:cR} {cq:Ex} {t:Tgt} {ay:List Ex} (H:∀fr k tp,wp qT c cq fr k tp->jT (ev c cq fr) k) (H':∀fr k tp,Gx qT c ay fr k tp->jT (dm c ay fr) k):
  ∀(items:List D) (fr:Fm) (k:Except Str (List D)->Fm->Tape->Prop) (tp:Tape),ki qT c cq t ay items fr k tp->jT (bH c fr cq t ay items) k:=by
 intro ds fr k tp h
 induction ds generalizing fr k tp with
 |nil=>exact⟨_,_,tp,rfl,h⟩
 |cons d ds ih=>
  rw[lq];have h:iT (clr fr (aW t)) (λfr=>dR qT (asgT c.pin fr t (.fz d)) λfr=>iT fr λfr=>Gx qT c ay fr (up (up k λr fr=>qT.cp (bH c fr cq t ay ds) (ki qT c cq t ay ds fr (im k r)) (im k r)) λb fr=>hG b
   (wp qT c cq fr (up (up k λr fr=>qT.cp (bH c fr cq t ay ds) (ki qT c cq t ay ds fr (im k r)) (im k r)) λr fr=>dR qT (bQ r) λx=>(up k λr fr=>qT.cp (bH c fr cq t ay ds) (ki qT c cq t ay ds fr (im k r)) (im k r)) (.ok (some x)) fr))
   ((up k λr fr=>qT.cp (bH c fr cq t ay ds) (ki qT c cq t ay ds fr (im k r)) (im k r)) (.ok none) fr))) tp:=h
  rw[cu]at h;obtain⟨Nk,h1,h⟩:=oK h;rw[cu]at h;rw[h1];dsimp only;refine(H' _ _ _ h).bind' (λaa aA bF h=>h) ?_;intro b fr tp h;have rest:∀(fr:Fm) (k:Except Str (List D)->Fm->Tape->Prop) (tp:Tape),qT.cp (bH c fr cq t ay ds) (ki qT c cq t ay ds fr k) k tp->jT (bH c fr cq t ay ds) k:=by
   intro fr k tp h
   rcases iI h with⟨tp,h⟩|⟨o,tp,h3,h⟩
   .exact ih fr k tp h
   .exact⟨o.1,o.2,tp,h3,h⟩
  cases b with
  |false=>
   have:=rest _ _ _ h;obtain⟨o,fr,tp,h3,h⟩:=this;refine⟨o,fr,tp,h3,?_⟩;cases o with
   |error e=>exact h
   |ok rs=>exact h
  |true=>
   refine(H _ _ _ h).bind' (λaa aA bF h=>h) ?_;intro r fr tp h;obtain⟨x,h4,h⟩:=oK h;dsimp only;rw[h4];exact(rest _ _ _ h).bind λrs fr tp h=>.ok h
set_option maxRecDepth 4000
theorem lr {c:cR} {as:List Nat} {rs:List Rv} {fr:Fm} {k:Except Str Rv->Fm->Tape->Prop} {tp:Tape} (h:tR qT c f as rs fr k tp):jT (fI c f as rs fr) k:=by
 obtain⟨ss,h1,h⟩:=oK h;obtain⟨h2,h⟩:=jf h;obtain⟨o,tp,h3,h⟩:=bW h;rw[cu]at h;unfold fI;rw[h1];dsimp only;rw[Y0 (YZ h2),h3]
 match o,h with
 |(.error e,aK),h=>exact⟨_,_,tp,rfl,h⟩
 |(.ok r,aK),h=>
  obtain⟨d,h4,h⟩:=oK h;dsimp only;rw[h4];exact .ok h
mutual
theorem bq (c:cR):∀(e:Ex) (fr:Fm) (k:Except Str Rv->Fm->Tape->Prop) (tp:Tape),wp qT c e fr k tp->jT (ev c e fr) k
 |.lit d,fr,k,tp,h=>by exact .ok h
 |.gl i,fr,k,tp,h=>by
  obtain⟨d,h1,h⟩:=oK h;rw[qd,h1];exact .ok h
 |.var i,fr,k,tp,h=>by
  rw[jH];have h:GQ qT fr[i]? fr i k tp:=h;revert h
  match fr[i]? with
  |some (.fz d)=>exact λh=>.ok h
  |some (.own d)=>exact λh=>by have h:iT (fr.set i (.fz d)) (λfr=>k (.ok (.fz d)) fr) tp:=h;rw[cu]at h;exact .ok h
  |none=>exact λh=>h.elim
  |some .no=>exact λh=>h.elim
  |some (.exc _)=>exact λh=>h.elim
 |.pl p,fr,k,tp,h=>by
  obtain⟨h1,h⟩:=jf h;rw[mC,Y0 h1];exact .ok h
 |.tup es,fr,k,tp,h=>by
  rw[yg];refine(d9 c es _ _ _ h).bind λrs fr tp h=>?_
  obtain⟨ds,h1,h⟩:=oK h;dsimp only;rw[h1];exact .ok h
 |.list es,fr,k,tp,h=>by
  rw[tM];refine(d9 c es _ _ _ h).bind λrs fr tp h=>?_
  obtain⟨ds,h1,h⟩:=oK h;dsimp only;rw[h1];exact .ok h
 |.op2 o a b,fr,k,tp,h=>by
  rw[yi];refine(bq c a _ _ _ h).bind λx fr tp h=>(bq c b _ _ _ h).bind λy fr tp h=>?_
  obtain⟨d,h1,h⟩:=oK h;obtain⟨e,h2,h⟩:=oK h;obtain⟨r,tp,h3,h⟩:=bW h;obtain⟨h4,h⟩:=qW h;dsimp only;rw[h1,h2];dsimp only;rw[h3,h4];exact .ok h
 |.neg a,fr,k,tp,h=>by
  rw[yj];refine(bq c a _ _ _ h).bind λx fr tp h=>?_
  obtain⟨d,h1,h⟩:=oK h;obtain⟨e,h2,h⟩:=oK h;dsimp only;rw[h1];dsimp only;rw[h2];exact .ok h
 |.not a,fr,k,tp,h=>by
  rw[rS];refine(bq c a _ _ _ h).bind λx fr tp h=>?_
  obtain⟨d,h1,h⟩:=oK h;obtain⟨tp,h⟩:=eA h;dsimp only;rw[h1];exact .ok h
 |.cmp o a b,fr,k,tp,h=>by
  rw[rU];refine(bq c a _ _ _ h).bind λx fr tp h=>(bq c b _ _ _ h).bind λy fr tp h=>?_
  obtain⟨d,h1,h⟩:=oK h;obtain⟨e,h2,h⟩:=oK h;obtain⟨r,tp,h3,h⟩:=bW h;dsimp only;rw[h1,h2];dsimp only;rw[h3];exact .ok h
 |.cmp2 o p a b e,fr,k,tp,h=>by
  rw[oc];refine(bq c a _ _ _ h).bind λx fr tp h=>(bq c b _ _ _ h).bind λy fr tp h=>?_
  obtain⟨d,h1,h⟩:=oK h;obtain⟨d',h2,h⟩:=oK h;obtain⟨t,tp,h3,h⟩:=bW h;obtain⟨tp,h⟩:=eA h;dsimp only;rw[h1,h2];dsimp only;rw[h3];dsimp only;cases t with
  |false=>rw[Y1 (by decide)];exact .ok h
  |true=>
   rw[Y0 rfl];refine(bq c e _ _ _ h).bind λz fr tp h=>?_
   obtain⟨GJ,h4,h⟩:=oK h;obtain⟨b,tp,h5,h⟩:=bW h;dsimp only;rw[h4];dsimp only;rw[h5];exact .ok h
 |.and es,fr,k,tp,h=>by rw[lb];exact vJ c es fr k tp h
 |.or es,fr,k,tp,h=>by rw[p8];exact vI c es fr k tp h
 |.ite t a b,fr,k,tp,h=>by
  rw[rT];refine(bq c t _ _ _ h).bind λx fr tp h=>?_
  obtain⟨d,h1,h⟩:=oK h;obtain⟨tp,h⟩:=eA h;dsimp only;rw[h1];dsimp only;cases ht:tD d with
  |true=>
   rw[ht]at h;rw[Y0 rfl];refine(bq c a _ _ _ h).bind λr fr tp h=>?_
   obtain⟨d,h1,h⟩:=oK h;dsimp only;rw[h1];exact .ok h
  |false=>
   rw[ht]at h;rw[Y1 (by decide)];refine(bq c b _ _ _ h).bind λr fr tp h=>?_
   obtain⟨d,h1,h⟩:=oK h;dsimp only;rw[h1];exact .ok h
 |.idx a i,fr,k,tp,h=>by
  rw[yk];refine(bq c a _ _ _ h).bind λx fr tp h=>(bq c i _ _ _ h).bind λy fr tp h=>?_
  obtain⟨d,h1,h⟩:=oK h;obtain⟨e,h2,h⟩:=oK h;obtain⟨r,tp,h3,h⟩:=bW h;dsimp only;rw[h1,h2];dsimp only;rw[h3];exact .ok h
 |.slc a lo hi,fr,k,tp,h=>by
  rw[yh];refine(bq c a _ _ _ h).bind λx fr tp h=>(bq c lo _ _ _ h).bind λy fr tp h=>(bq c hi _ _ _ h).bind λz fr tp h=>?_
  obtain⟨d,h1,h⟩:=oK h;obtain⟨e,h2,h⟩:=oK h;obtain⟨f,h5,h⟩:=oK h;obtain⟨r,tp,h3,h⟩:=bW h;obtain⟨h4,h⟩:=qW h;dsimp only;rw[h1,h2,h5];dsimp only;rw[h3,h4];exact .ok h
 |.call f args,fr,k,tp,h=>by
  rw[tP];exact(d9 c args _ _ _ h).bind λrs fr tp h=>lr h
 |.mcall f as args,fr,k,tp,h=>by
  rw[p9];exact(d9 c args _ _ _ h).bind λrs fr tp h=>lr h
 |.callw f args e,fr,k,tp,h=>by
  rw[qe];refine(d9 c args _ _ _ h).bind λrs fr tp h=>?_
  obtain⟨ds,h1,h⟩:=oK h;dsimp only;rw[h1];refine(bq c e _ _ _ h).bind λr fr tp h=>?_
  match r,h with
  |.fz _,h=>exact h.elim
  |.pl _,h=>exact h.elim
  |.own d,h=>
   obtain⟨o,tp,h3,h⟩:=bW h;show jT (fk c f ds (.own d) fr) k
   unfold fk;dsimp only;rw[h3]
   match o,h with
   |(.error e,aK),h=>exact⟨_,_,tp,rfl,h⟩
   |(.ok r,aK),h=>
    obtain⟨d,h4,h⟩:=oK h;dsimp only;rw[h4];exact .ok h
 |.pop p,fr,k,tp,h=>by
  rw[rR];obtain⟨o,h1,h⟩:=oK h;obtain⟨x,tp,h2,h⟩:=bW h;obtain⟨y,h3,h⟩:=oK h;rw[cu]at h;rw[h1];dsimp only;rw[h2];dsimp only;rw[h3];exact .ok h
 |.bi b args,fr,k,tp,h=>by
  rw[mD];obtain⟨h0,h⟩:=io h;rw[h0,Y1 (by decide)];refine(d9 c args _ _ _ h).bind λrs fr tp h=>?_
  obtain⟨ds,h1,h⟩:=oK h;obtain⟨r,tp,h3,h⟩:=bW h;obtain⟨h4,h⟩:=qW h;dsimp only;rw[h1];dsimp only;rw[h3,h4];exact .ok h
 |.comp cq t it b8 ay,fr,k,tp,h=>by
  rw[tO];obtain⟨h0,h⟩:=io h;rw[h0,Y1 (by decide)];refine(d9 c b8 _ _ _ h).bind λrs fr tp h=>?_
  obtain⟨ds,h1,h⟩:=oK h;obtain⟨items,tp,h3,h⟩:=bW h;dsimp only;rw[h1];dsimp only;rw[h3];dsimp only;have:=show jT (bH c fr cq t ay items) _ from by
   rcases iI h with⟨tp,h⟩|⟨o,tp,h3,h⟩
   .exact qk (bq c cq) (qL c ay) items fr _ tp h
   .exact⟨o.1,o.2,tp,h3,h⟩
  obtain⟨o,fr,tp,h3,h⟩:=this;rw[h3]
  match o,h with
  |.error e,h=>have h:iT (clr fr (aW t)) (λfr=>k (.error e) fr) tp:=h;rw[cu]at h;exact⟨_,_,tp,rfl,h⟩
  |.ok ds,h=>exact .ok h
 |.isx i yes no,fr,k,tp,h=>by
  rw[n9];have h:H9 qT fr[i]? yes no (λb=>k (.ok (.fz (.bool b))) fr) tp:=h;revert h
  match fr[i]? with
  |none=>exact λh=>h.elim
  |some .no=>exact λh=>h.elim
  |some (.fz _)=>exact λh=>h.elim
  |some (.own _)=>exact λh=>h.elim
  |some (.exc x)=>
   intro h;have h:hG (yes.contains x) (k (.ok (.fz (.bool true))) fr) (hG (no.contains x) (k (.ok (.fz (.bool false))) fr) qT.bad) tp:=h;dsimp only;cases hy:yes.contains x with
   |true=>rw[hy]at h;rw[Y0 rfl];exact .ok h
   |false=>
    rw[hy]at h;rw[Y1 (by decide)];obtain⟨h1,h⟩:=jf h;rw[Y0 h1];exact .ok h
 |.dsel ks es i,fr,k,tp,h=>by
  rw[tN];refine(d9 c es _ _ _ h).bind λrs fr tp h=>?_
  obtain⟨ds,h1,h⟩:=oK h;dsimp only;rw[h1];have h:CJ qT fr[i]? ks ds (λd=>k (.ok (.fz d)) fr) tp:=h;revert h
  match fr[i]? with
  |some (.fz (.str x))=>
   intro h;obtain⟨d,tp,h2,h⟩:=bW h;dsimp only;rw[h2];exact .ok h
  |none=>exact λh=>h.elim
  |some .no=>exact λh=>h.elim
  |some (.own _)=>exact λh=>h.elim
  |some (.exc _)=>exact λh=>h.elim
  |some (.fz .none)=>exact λh=>h.elim
  |some (.fz (.bool _))=>exact λh=>h.elim
  |some (.fz (.int _))=>exact λh=>h.elim
  |some (.fz (.list _))=>exact λh=>h.elim
  |some (.fz (.tuple _))=>exact λh=>h.elim
  |some (.fz (.dict _))=>exact λh=>h.elim
theorem d9 (c:cR):∀(es:List Ex) (fr:Fm) (k:Except Str (List Rv)->Fm->Tape->Prop) (tp:Tape),t7 qT c es fr k tp->jT (gr c es fr) k
 |[],fr,k,tp,h=>by exact .ok h
 |e::es,fr,k,tp,h=>by
  rw[dj];exact(bq c e _ _ _ h).bind λx fr tp h=>(d9 c es _ _ _ h).bind λy fr tp h=>.ok h
theorem vJ (c:cR):∀(es:List Ex) (fr:Fm) (k:Except Str Rv->Fm->Tape->Prop) (tp:Tape),Ku qT c es fr k tp->jT (jR c es fr) k
 |[],fr,k,tp,h=>by exact h.elim
 |[e],fr,k,tp,h=>by
  rw[gZ];refine(bq c e _ _ _ h).bind λr fr tp h=>?_
  obtain⟨d,h1,h⟩:=oK h;dsimp only;rw[h1];exact .ok h
 |e::e'::es,fr,k,tp,h=>by
  rw[fW];refine(bq c e _ _ _ h).bind λr fr tp h=>?_
  obtain⟨d,h1,h⟩:=oK h;obtain⟨tp,h⟩:=eA h;dsimp only;rw[h1];dsimp only;cases ht:tD d with
  |true=>rw[ht]at h;rw[Y0 rfl];exact vJ c (e'::es) _ _ _ h
  |false=>rw[ht]at h;rw[Y1 (by decide)];exact .ok h
theorem vI (c:cR):∀(es:List Ex) (fr:Fm) (k:Except Str Rv->Fm->Tape->Prop) (tp:Tape),Ks qT c es fr k tp->jT (qf c es fr) k
 |[],fr,k,tp,h=>by exact h.elim
 |[e],fr,k,tp,h=>by
  rw[i7];refine(bq c e _ _ _ h).bind λr fr tp h=>?_
  obtain⟨d,h1,h⟩:=oK h;dsimp only;rw[h1];exact .ok h
 |e::e'::es,fr,k,tp,h=>by
  rw[gY];refine(bq c e _ _ _ h).bind λr fr tp h=>?_
  obtain⟨d,h1,h⟩:=oK h;obtain⟨tp,h⟩:=eA h;dsimp only;rw[h1];dsimp only;cases ht:tD d with
  |true=>rw[ht]at h;rw[Y0 rfl];exact .ok h
  |false=>rw[ht]at h;rw[Y1 (by decide)];exact vI c (e'::es) _ _ _ h
theorem qL (c:cR):∀(es:List Ex) (fr:Fm) (k:Except Str Bool->Fm->Tape->Prop) (tp:Tape),Gx qT c es fr k tp->jT (dm c es fr) k
 |[],fr,k,tp,h=>by exact .ok h
 |e::es,fr,k,tp,h=>by
  rw[i8];refine(bq c e _ _ _ h).bind λr fr tp h=>?_
  obtain⟨d,h1,h⟩:=oK h;obtain⟨tp,h⟩:=eA h;dsimp only;rw[h1];dsimp only;cases ht:tD d with
  |true=>rw[ht]at h;rw[Y0 rfl];exact qL c es _ _ _ h
  |false=>rw[ht]at h;rw[Y1 (by decide)];exact .ok h
end
mutual
theorem C9 (c:cR):∀(s:St) (fr:Fm) (k:Except Str dH->Fm->Tape->Prop) (tp:Tape),wpS qT c s fr k tp->jT (mB c s fr) k
 |.asg t e,fr,k,tp,h=>by
  rw[kb];obtain⟨h0,h⟩:=io h;rw[h0,Y1 (by decide)];refine(bq c e _ _ _ h).bind λr fr tp h=>?_
  obtain⟨Nk,h1,h⟩:=oK h;rw[cu]at h;dsimp only;rw[h1];exact .ok h
 |.setI p i e,fr,k,tp,h=>by
  rw[p7];refine(bq c e _ _ _ h).bind λr fr tp h=>?_
  obtain⟨h0,h⟩:=jf h;dsimp only;rw[Y0 h0];refine(bq c i _ _ _ h).bind λr fr tp h=>?_
  obtain⟨d,h1,h⟩:=oK h;obtain⟨x,h2,h⟩:=oK h;obtain⟨o,h3,h⟩:=oK h;obtain⟨o',tp,h4,h⟩:=bW h;rw[cu]at h;dsimp only;rw[h1,h2,h3];dsimp only;rw[h4];exact .ok h
 |.app p e,fr,k,tp,h=>by
  rw[tL];obtain⟨h0,h⟩:=jf h;rw[Y0 h0];refine(bq c e _ _ _ h).bind λr fr tp h=>?_
  obtain⟨d,h1,h⟩:=oK h;dsimp only;rw[h1];revert h
  match cb fr p with
  |none=>exact λh=>h.elim
  |some (.list xs)=>
   intro h;obtain⟨tp,h⟩:=eA h;obtain⟨h2,h⟩:=jf h;rw[cu]at h;dsimp only;rw[Y0 (YZ h2)];exact .ok h
  |some .none=>exact λh=>h.elim
  |some (.bool _)=>exact λh=>h.elim
  |some (.int _)=>exact λh=>h.elim
  |some (.str _)=>exact λh=>h.elim
  |some (.tuple _)=>exact λh=>h.elim
  |some (.dict _)=>exact λh=>h.elim
 |.exp e,fr,k,tp,h=>by
  rw[tK];exact(bq c e _ _ _ h).bind λr fr tp h=>.ok h
 |.iff t a b,fr,k,tp,h=>by
  rw[tI];refine(bq c t _ _ _ h).bind λx fr tp h=>?_
  obtain⟨d,h1,h⟩:=oK h;obtain⟨tp,h⟩:=eA h;dsimp only;rw[h1];dsimp only;cases ht:tD d with
  |true=>rw[ht]at h;rw[Y0 rfl];exact dP c a _ _ _ h
  |false=>rw[ht]at h;rw[Y1 (by decide)];exact dP c b _ _ _ h
 |.ret e,fr,k,tp,h=>by
  rw[tF];refine(bq c e _ _ _ h).bind λr fr tp h=>?_
  cases r with
  |pl p=>exact h.elim
  |fz d=>exact .ok h
  |own d=>exact .ok h
 |.for_ t it b8 body cD,fr,k,tp,h=>by
  rw[tJ];obtain⟨h0,h⟩:=io h;rw[h0,Y1 (by decide)];refine(d9 c b8 _ _ _ h).bind λrs fr tp h=>?_
  obtain⟨ds,h1,h⟩:=oK h;obtain⟨items,tp,h3,h⟩:=bW h;dsimp only;rw[h1];dsimp only;rw[h3];dsimp only
  rcases iI h with⟨tp,h⟩|⟨o,tp,h3,h⟩
  .exact tx (dP c body) items fr _ tp h
  .exact⟨o.1,o.2,tp,h3,h⟩
 |.whl t body cD,fr,k,tp,h=>by
  rw[tB];obtain⟨h0,h⟩:=io h;rw[h0,Y1 (by decide)]
  rcases iI h with⟨tp,h⟩|⟨o,tp,h3,h⟩
  .exact h.elim
  .exact⟨o.1,o.2,tp,h3,h⟩
 |.raise x,fr,k,tp,h=>by
  obtain⟨h0,h⟩:=io h;rw[mz,h0,Y1 (by decide)];exact⟨_,_,tp,rfl,h⟩
 |.try_ body yes v hand,fr,k,tp,h=>by
  rw[tC];obtain⟨h0,h⟩:=io h;rw[h0,Y1 (by decide)];obtain⟨o,fr,tp,h1,h⟩:=dP c body _ _ _ h;rw[h1]
  match o,h with
  |.ok x,h=>exact .ok h
  |.error e,h=>
   obtain⟨h2,h⟩:=jf h;obtain⟨h3,h⟩:=io h;rw[cu]at h;obtain⟨o,cT,tp,h4,h⟩:=dP {c with hd:=true} hand _ _ _ h;rw[oP,Y0 ⟨h2,by rw[h3];decide⟩,h4]
   match o,h with
   |.ok x,h=>
    have h:iT (cT.set v .no) (λfr=>k (.ok x) fr) tp:=h;rw[cu]at h;exact .ok h
   |.error _,h=>exact h.elim
 |.no,fr,k,tp,h=>by exact h.elim
 |.rev p,fr,k,tp,h=>by
  rw[tE];obtain⟨o,h1,h⟩:=oK h;obtain⟨x,tp,h2,h⟩:=bW h;rw[cu]at h;rw[h1];dsimp only;rw[h2];exact .ok h
 |.mst f as rb args,fr,k,tp,h=>by
  rw[tH];refine(d9 c args _ _ _ h).bind λrs fr tp h=>?_
  obtain⟨h0,h⟩:=io h;dsimp only;rw[h0,Y1 (by decide)];exact(lr h).bind λr fr tp h=>.ok h
 |.new f as args body,fr,k,tp,h=>by
  rw[tG];obtain⟨h0,h⟩:=io h;rw[h0,Y1 (by decide)];refine(d9 c args _ _ _ h).bind λrs fr tp h=>?_
  obtain⟨ds,h1,h⟩:=oK h;obtain⟨o,tp,h3,h⟩:=bW h;dsimp only;rw[h1];dsimp only;rw[h3];obtain⟨r,aK⟩:=o;obtain⟨hn,h⟩:=jf h;rw[cu]at h;obtain⟨o,cT,tp,h4,h⟩:=dP c body _ _ _ h;rw[cu]at h;dsimp only;rw[hn,Y0 rfl,h4];exact⟨_,_,tp,rfl,h⟩
theorem dP (c:cR):∀(ss:List St) (fr:Fm) (k:Except Str dH->Fm->Tape->Prop) (tp:Tape),jo qT c ss fr k tp->jT (c9 c ss fr) k
 |[],fr,k,tp,h=>by exact .ok h
 |s::ss,fr,k,tp,h=>by
  rw[jG];refine(C9 c s _ _ _ h).bind λr fr tp h=>?_
  cases r with
  |next=>exact dP c ss _ _ _ h
  |ret r=>exact .ok h
end
theorem oi (a b:Int):og (.int a) (.int b)=some (decide (a=b)):=by
 rw[dr];congr 1
theorem mP (a b:Str):au .eq (.str a) (.str b)=some (decide (a=b)):=Mv.e_strD a b
theorem el (a b:Int):au .eq (.int a) (.int b)=some (decide (a=b)):=oi a b
theorem mO (a b:Int):au .eq (.int a) (.int b)=some (a==b):=rfl
theorem gw (a b:D):au .eq a b=og a b:=rfl
theorem lR (a b:D):au .ne a b=(og a b).map (!·):=rfl
theorem bB (a b:Int):au .lt (.int a) (.int b)=some (decide (a<b)):=rfl
theorem BH (a b:Int):au .le (.int a) (.int b)=some (decide (a<=b)):=rfl
theorem eR (a b:Int):au .gt (.int a) (.int b)=some (decide (b<a)):=rfl
theorem FM (a b:Int):au .ge (.int a) (.int b)=some (decide (b<=a)):=rfl
theorem cJ (n:Int):bG .range [.int n]=if -1000000000<=n/\n<=(Sz:Int) then some (fO 0 n.toNat) else none:=rfl
structure F where
 n:Nat
 it:It
 A:Prop
 pf:A
noncomputable abbrev F.b (n:Nat) {x:Option Bool} {y:Bool} (h:x=some y):F:=⟨n,.b y,x=some y,h⟩
noncomputable abbrev F.t (n:Nat) {x y:Bool} (h:x=y):F:=⟨n,.b y,x=y,h⟩
noncomputable abbrev F.v (n:Nat) {x:Option Rv} {y:Rv} (h:x=some y):F:=⟨n,.v y,x=some y,h⟩
noncomputable abbrev F.d (n:Nat) {x:Option D} {y:D} (h:x=some y):F:=⟨n,.d y,x=some y,h⟩
noncomputable abbrev F.l (n:Nat) {x:Option (List D)} {y:List D} (h:x=some y):F:=⟨n,.l y,x=some y,h⟩
noncomputable abbrev F.lp (n:Nat) {x:cA dH} {y:Except Str dH×Fm} (h:x=some y):F:=⟨n,.lp y,x=some y,h⟩
noncomputable abbrev F.cp (n:Nat) {x:cA (List D)} {y:Except Str (List D)×Fm} (h:x=some y):F:=⟨n,.cp y,x=some y,h⟩
noncomputable abbrev F.c (n:Nat) {x:Option (Except Str Rv×List Slot)} {y:Except Str Rv×List Slot} (h:x=some y):F:=⟨n,.c y,x=some y,h⟩
noncomputable def kt:List F->Tape
 |[]=>[]
 |f::fs=>(f.n,f.it)::kt fs
def vy (R:Prop):List F->Prop
 |[]=>R
 |f::fs=>f.A/\vy R fs
theorem kg {R:Prop} (h:R):∀fs,vy R fs:=by
 intro fs
 induction fs with
 |nil=>exact h
 |cons f fs ih=>exact⟨f.pf,ih⟩
theorem BE {P:Pr} {hd:Bool} {args:List Slot}:cF P (n+1) hd f args=(match P.fns[f]? with
  |none=>none
  |some fn=>if args.length=fn.np then
    match c9 ⟨P.glob,cF P n,eW fn.na fn.rb args,hd⟩ fn.body (args++replicate (fn.nv-fn.np) .no) with
    |none=>none
    |some (.error e,fr)=>some (.error e,dW fn.na args fr)
    |some (.ok .next,fr)=>some (.ok (.fz .none),dW fn.na args fr)
    |some (.ok (.ret r),fr)=>some (.ok r,dW fn.na args fr)
   else none):=rfl
theorem aM (fs:List F) {P:Pr} {hd:Bool} {args:List Slot} {R R':Option (Except Str Rv×List Slot)} (hR:R'=R)
  (h:vy (R'=R) fs=NB qT P n hd f args (λr aa=>r=R) (kt fs):=by kernel_rfl):cF P (n+1) hd f args=R:=by
 have h:=Eq.mp h (kg hR fs);obtain⟨fn,h1,h⟩:=oK h;obtain⟨h2,h⟩:=jf h;rw[cu]at h;obtain⟨o,fr,tp,h3,h⟩:=dP _ _ _ _ _ h;rw[BE,h1];dsimp only;rw[Y0 (YZ h2),h3];exact h
theorem jW (fs:List F) {c:cR} {fr:Fm} {t:Tgt} {body:List St} {items:List D} {R R':cA dH} (hR:R'=R)
  (h:vy (R'=R) fs=Dd qT c t body cD items fr (λo fr aa=>some (o,fr)=R) (kt fs):=by kernel_rfl):cU c fr t body cD items=R:=by
 obtain⟨o,fr,tp,h3,h⟩:=tx (dP c body) _ _ _ _ (Eq.mp h (kg hR fs));rw[h3,h]
theorem Kw (fs:List F) {c:cR} {fr:Fm} {t:Ex} {body:List St} {R R':cA dH} (hR:R'=R)
  (h:vy (R'=R) fs=Mu qT c t body cD n fr (λo fr aa=>some (o,fr)=R) (kt fs):=by kernel_rfl):vE c fr t body cD (n+1)=R:=by
 have h:=Eq.mp h (kg hR fs);unfold Mu at h;rw[cu]at h;obtain⟨o,fr,tp,h1,h⟩:=bq _ _ _ _ _ h;rw[oM,h1]
 match o,h with
 |.error _,h=>exact h
 |.ok x,h=>
  obtain⟨d,h2,h⟩:=oK h;obtain⟨tp,h⟩:=eA h;rw[aT,fq,h2,fq];cases ht:tD d with
  |false=>rw[ht]at h;exact h
  |true=>
   rw[ht]at h;obtain⟨o,fr,tp,h3,h⟩:=dP _ _ _ _ _ h;dsimp only;rw[h3]
   match o,h with
   |.error _,h=>exact h
   |.ok (.ret r),h=>exact h
   |.ok .next,h=>
    rcases iI h with⟨tp,h⟩|⟨o,tp,h4,h⟩
    .exact h.elim
    .exact Eq.trans h4 h
theorem y4 (fs:List F) {c:cR} {fr:Fm} {cq:Ex} {t:Tgt} {ay:List Ex} {items:List D} {R R':cA (List D)} (hR:R'=R)
  (h:vy (R'=R) fs=ki qT c cq t ay items fr (λo fr aa=>some (o,fr)=R) (kt fs):=by kernel_rfl):bH c fr cq t ay items=R:=by
 obtain⟨o,fr,tp,h3,h⟩:=qk (bq c cq) (qL c ay) _ _ _ _ (Eq.mp h (kg hR fs));rw[h3,h]
end Mv
namespace Mv
open PySem PyProof.Rows
class Hp where
 w:World
 B:Heap
 mg:Str->Option Value
 mb:Str->Option Value
variable [Hp]
noncomputable abbrev prog:Program:=Hq.p
noncomputable abbrev w:World:=Hp.w
noncomputable abbrev B:Heap:=Hp.B
noncomputable abbrev mg:Str->Option Value:=Hp.mg
noncomputable abbrev mb:Str->Option Value:=Hp.mb
def iw (h:Heap) (a:Addr) (kvs:List (Str×Value)):Prop:=(a==sysModules)=false/\h.DictOf (strKind prog w) a kvs
theorem iw.at' {kvs:List (Str×Value)} (k:∀o,h.get? a=some o->h'.get? a=some o) (x:iw h a kvs):iw h' a kvs:=
 ⟨x.1,let ⟨o,es,ep,ho,r⟩:=x.2;⟨o,es,ep,k o ho,r⟩⟩
theorem iw.live {kvs:List (Str×Value)} (x:iw h a kvs):∃o,h.get? a=some o:=let ⟨o,_,_,ho,_⟩:=x.2;⟨o,ho⟩
mutual
inductive b5 (h:Heap) (Z:Addr->Prop):Value->D->Prop
 |none:b5 h Z .none .none
 |bool (b:Bool):b5 h Z (.bool b) (.bool b)
 |int (i:Int) (t:Tok):b5 h Z (.int i t) (.int i)
 |str (x:Str) (t:Tok):PyData.strOk x=true->x.cps.size<=Sz->b5 h Z (.str x t) (.str x)
 |list {a:Addr} {vs:List Value} {n:Nat} {ds:List D}:Z a->IsL h a vs.toArray n->vs.length<=Sz->am h Z vs ds->b5 h Z (.ref a) (.list ds)
 |tuple {a:Addr} {vs:List Value} {n:Nat} {ds:List D}:Z a->IsT h a vs.toArray n->vs.length<=Sz->am h Z vs ds->b5 h Z (.ref a) (.tuple ds)
 |dict {a:Addr} {kvs:List (Str×Value)} {ds:List (D×D)}:Z a->iw h a kvs->kvs.length<=Sz->aZ h Z kvs ds->b5 h Z (.ref a) (.dict ds)
inductive am (h:Heap) (Z:Addr->Prop):List Value->List D->Prop
 |nil:am h Z [] []
 |cons {v:Value} {vs:List Value} {d:D} {ds:List D}:b5 h Z v d->am h Z vs ds->am h Z (v::vs) (d::ds)
inductive aZ (h:Heap) (Z:Addr->Prop):List (Str×Value)->List (D×D)->Prop
 |nil:aZ h Z [] []
 |cons {k:Str} {v:Value} {kvs:List (Str×Value)} {d:D} {ds:List (D×D)}:PyData.strOk k=true->k.cps.size<=Sz->b5 h Z v d->aZ h Z kvs ds->aZ h Z ((k,v)::kvs) ((.str k,d)::ds)
end
section
variable {h h':Heap} {Z Z':Addr->Prop}
theorem nB {P1:Value->D->Prop} {P2:List Value->List D->Prop} {P3:List (Str×Value)->List (D×D)->Prop} (h0:P1 .none .none) (hb:∀b,P1 (.bool b) (.bool b)) (hi:∀i t,P1 (.int i t) (.int i))
  (hs:∀(x:Str) t,PyData.strOk x=true->x.cps.size<=Sz->P1 (.str x t) (.str x)) (hl:∀ {a:Addr} {vs:List Value} {n:Nat} {ds:List D},Z a->IsL h a vs.toArray n->vs.length<=Sz->P2 vs ds->P1 (.ref a) (.list ds))
  (ht:∀ {a:Addr} {vs:List Value} {n:Nat} {ds:List D},Z a->IsT h a vs.toArray n->vs.length<=Sz->P2 vs ds->P1 (.ref a) (.tuple ds))
  (hd:∀ {a:Addr} {kvs:List (Str×Value)} {ds:List (D×D)},Z a->iw h a kvs->kvs.length<=Sz->P3 kvs ds->P1 (.ref a) (.dict ds)) (n2:P2 [] []) (c2:∀ {v:Value} {vs:List Value} {d:D} {ds:List D},P1 v d->P2 vs ds->P2 (v::vs) (d::ds))
  (n3:P3 [] []) (c3:∀ {k:Str} {v:Value} {kvs:List (Str×Value)} {d:D} {ds:List (D×D)},PyData.strOk k=true->k.cps.size<=Sz->P1 v d->P3 kvs ds->P3 ((k,v)::kvs) ((.str k,d)::ds)):
  (∀ {v:Value} {d:D},b5 h Z v d->P1 v d)/\(∀ {vs:List Value} {ds:List D},am h Z vs ds->P2 vs ds)/\ ∀ {vs:List (Str×Value)} {ds:List (D×D)},aZ h Z vs ds->P3 vs ds:=
 have Ma:∀ {v:Value} {vs:List Value} {d:D} {ds:List D},b5 h Z v d->am h Z vs ds->P1 v d->P2 vs ds->P2 (v::vs) (d::ds):=λaa aA a b=>c2 a b
 have cz:∀ {a:Addr} {vs:List Value} {n:Nat} {ds:List D},Z a->IsL h a vs.toArray n->vs.length<=Sz->am h Z vs ds->P2 vs ds->P1 (.ref a) (.list ds):=λz g l aa e=>hl z g l e
 have K5:∀ {a:Addr} {vs:List Value} {n:Nat} {ds:List D},Z a->IsT h a vs.toArray n->vs.length<=Sz->am h Z vs ds->P2 vs ds->P1 (.ref a) (.tuple ds):=λz g l aa e=>ht z g l e
 have c5:∀ {a:Addr} {kvs:List (Str×Value)} {ds:List (D×D)},Z a->iw h a kvs->kvs.length<=Sz->aZ h Z kvs ds->P3 kvs ds->P1 (.ref a) (.dict ds):=λz g l aa e=>hd z g l e
 have L9:∀ {k:Str} {v:Value} {kvs:List (Str×Value)} {d:D} {ds:List (D×D)},PyData.strOk k=true->k.cps.size<=Sz->b5 h Z v d->aZ h Z kvs ds->P1 v d->P3 kvs ds->P3 ((k,v)::kvs) ((.str k,d)::ds):=λo l aa aA a b=>c3 o l a b
 ⟨λr=>b5.rec (motive_1:=λv d aa=>P1 v d) (motive_2:=λvs ds aa=>P2 vs ds) (motive_3:=λvs ds aa=>P3 vs ds) h0 hb hi hs cz K5 c5 n2 Ma n3 L9 r,
  λr=>am.rec (motive_1:=λv d aa=>P1 v d) (motive_2:=λvs ds aa=>P2 vs ds) (motive_3:=λvs ds aa=>P3 vs ds) h0 hb hi hs cz K5 c5 n2 Ma n3 L9 r,
  λr=>aZ.rec (motive_1:=λv d aa=>P1 v d) (motive_2:=λvs ds aa=>P2 vs ds) (motive_3:=λvs ds aa=>P3 vs ds) h0 hb hi hs cz K5 c5 n2 Ma n3 L9 r⟩
theorem jr (hk:∀a o,Z a->h.get? a=some o->h'.get? a=some o) (hz:∀a,Z a->Z' a):(∀ {v:Value} {d:D},b5 h Z v d->b5 h' Z' v d)/\(∀ {vs:List Value} {ds:List D},am h Z vs ds->am h' Z' vs ds)/\ ∀ {vs:List (Str×Value)} {ds:List (D×D)},aZ h Z vs ds->aZ h' Z' vs ds:=
 nB .none .bool .int .str (λz g l r=>.list (hz _ z) (hk _ _ z g) l r) (λz g l r=>.tuple (hz _ z) (hk _ _ z g) l r) (λz g l r=>.dict (hz _ z) (g.at' λo=>hk _ o z) l r) .nil .cons .nil .cons
theorem b5.mono (hk:∀a o,Z a->h.get? a=some o->h'.get? a=some o) (hz:∀a,Z a->Z' a) {v:Value} {d:D} (r:b5 h Z v d):b5 h' Z' v d:=(jr hk hz).1 r
theorem am.mono (hk:∀a o,Z a->h.get? a=some o->h'.get? a=some o) (hz:∀a,Z a->Z' a) {ds:List D} (r:am h Z vs ds):am h' Z' vs ds:=(jr hk hz).2.1 r
theorem aZ.mono (hk:∀a o,Z a->h.get? a=some o->h'.get? a=some o) (hz:∀a,Z a->Z' a) {vs:List (Str×Value)} {ds:List (D×D)} (r:aZ h Z vs ds):aZ h' Z' vs ds:=(jr hk hz).2.2 r
theorem am.ind {P:List Value->List D->Prop} (n:P [] []) (c:∀ {v:Value} {vs:List Value} {d:D} {ds:List D},b5 h Z v d->am h Z vs ds->P vs ds->P (v::vs) (d::ds)):∀ {vs:List Value} {ds:List D},am h Z vs ds->P vs ds:=by
 intro vs x1 R
 induction vs generalizing x1 with
 |nil=>cases R;exact n
 |cons v vs ih=>cases R with|cons a r=>exact c a r (ih r)
theorem aZ.ind {P:List (Str×Value)->List (D×D)->Prop} (n:P [] []) (c:∀ {k:Str} {v:Value} {vs:List (Str×Value)} {d:D} {ds:List (D×D)},PyData.strOk k=true->k.cps.size<=Sz->b5 h Z v d->aZ h Z vs ds->P vs ds->P ((k,v)::vs) ((.str k,d)::ds)):∀ {vs:List (Str×Value)} {ds:List (D×D)},aZ h Z vs ds->P vs ds:=by
 intro vs x1 R
 induction vs generalizing x1 with
 |nil=>cases R;exact n
 |cons _ vs ih=>cases R with|cons o l a r=>exact c o l a r (ih r)
theorem aZ.length {vs:List (Str×Value)} {ds:List (D×D)} (r:aZ h Z vs ds):vs.length=ds.length:=aZ.ind (P:=λvs ds=>vs.length=ds.length) rfl (λaa aA bF gy e=>Y7 (· + 1) e) r
theorem aZ.get {vs:List (Str×Value)} {ds:List (D×D)} {k:Str} (r:aZ h Z vs ds):(bS ds k=none/\valueAt vs k=none)\/ ∃v d,bS ds k=some d/\valueAt vs k=some v/\b5 h Z v d:=by
 refine aZ.ind (P:=λvs ds=>(bS ds k=none/\valueAt vs k=none)\/ ∃v d,bS ds k=some d/\valueAt vs k=some v/\b5 h Z v d) (.inl ⟨rfl,rfl⟩) ?_ r;intro k' v kvs d ds _ _ a _ ih
 by_cases q:k'=k
 .exact .inr ⟨v,d,by show(if k'=k then some d else bS ds k)=some d;exact Er (Y0 q) rfl,by unfold valueAt;refine Er (find?_cons) (Er (Y5 q) ?_);rfl,a⟩
 .have e:bS ((.str k',d)::ds) k=bS ds k:=by show(if k'=k then some d else bS ds k)=_;exact Er (Y1 q) rfl
  have e':valueAt ((k',v)::kvs) k=valueAt kvs k:=by unfold valueAt;exact Er (find?_cons) (Er (Y6 q) rfl)
  exact Er e (Er e' ih)
theorem aZ.setm {k:Str} {v:Value} {d:D} (rv:b5 h Z v d) {vs:List (Str×Value)} {ds:List (D×D)} (r:aZ h Z vs ds):aZ h Z (vs.map λkv=>if kv.1=k then(kv.1,v) else kv) (ll ds k d):=by
 refine aZ.ind (P:=λvs ds=>aZ h Z (vs.map λkv=>if kv.1=k then(kv.1,v) else kv) (ll ds k d)) .nil ?_ r;intro k' v' kvs d' ds o l a _ ih;refine Er Zz ?_;show aZ h Z _ ((.str k',if k'=k then d else d')::ll ds k d)
 by_cases q:k'=k
 .exact Er (Y0 q) (Er (Y0 q) (.cons o l rv ih))
 .exact Er (Y1 q) (Er (Y1 q) (.cons o l a ih))
theorem aZ.has {vs:List (Str×Value)} {ds:List (D×D)} {k:Str} (r:aZ h Z vs ds):(vs.any λkv=>decide (kv.1=k))=(bS ds k).isSome:=by
 refine aZ.ind (P:=λvs ds=>(vs.any λkv=>decide (kv.1=k))=(bS ds k).isSome) rfl ?_ r;intro k' v kvs d ds _ _ a _ ih;refine Er any_cons ?_;show _=(if k'=k then some d else bS ds k).isSome
 by_cases q:k'=k
 .refine Er (Y0 q) (Er (Y5 q) ?_);rfl
 .refine Er (Y1 q) ?_;refine Er (Y6 q) ?_;rw[Bool.false_or];exact ih
theorem aZ.app {k:Str} {v:Value} {d:D} (o:PyData.strOk k=true) (l:k.cps.size<=Sz) (rv:b5 h Z v d) {vs:List (Str×Value)} {ds:List (D×D)} (r:aZ h Z vs ds):aZ h Z (vs++[(k,v)]) (ds++[(.str k,d)]):=
 aZ.ind (P:=λvs ds=>aZ h Z (vs++[(k,v)]) (ds++[(str k,d)])) (.cons o l rv .nil) (λo' l' a aa e=>.cons o' l' a e) r
theorem aZ.set {k:Str} {v:Value} {d:D} {vs:List (Str×Value)} {ds:List (D×D)} (r:aZ h Z vs ds) (o:PyData.strOk k=true) (l:k.cps.size<=Sz) (rv:b5 h Z v d):aZ h Z (stored vs k v) (fH ds k d):=by
 unfold stored fH;refine Er r.has ?_
 split
 .exact r.setm rv
 .exact r.app o l rv
theorem vb (k:Str) (d:D):∀ds:List (D×D),(ll ds k d).length=ds.length:=by
 intro r
 induction r with
 |nil=>exact rfl
 |cons p0 r ih=>
  obtain⟨x,y⟩:=p0;cases x<;>exact Y7 (· + 1) ih
theorem uZ (k:Str) (d:D) (ds:List (D×D)):(fH ds k d).length<=ds.length+1:=by
 unfold fH
 split
 .rw[vb];exact(L0 [ds.length] .x (.p 1 .x) rfl)
 .simp
theorem kH:(∀ {v:Value} {d:D},b5 h Z v d->noDict d=true-> ∃as,Reads h v d as)/\(∀ {vs:List Value} {ds:List D},am h Z vs ds->noDicts ds=true-> ∃as,ReadsAll h vs ds as)/\ ∀ {vs:List (Str×Value)} {ds:List (D×D)},aZ h Z vs ds->True:=by
 refine nB (λaa=>⟨_,.none⟩) (λb aa=>⟨_,.bool b⟩) (λi t aa=>⟨_,.int i t⟩) (λx t aa aA bF=>⟨_,.str x t⟩) (λaa g aA r e=>?_) (λaa g aA r e=>?_) (λaa aA bF gy e=>nomatch e) (λaa=>⟨_,.nil⟩) (λa r e=>?_) trivial λaa aA bF gy=>trivial
 .obtain⟨_,q⟩:=r e;exact⟨_,.list g rfl rfl q⟩
 .obtain⟨_,q⟩:=r e;exact⟨_,.tuple g rfl rfl q⟩
 .have Q:=and_eq_true_iff.mp e
  obtain⟨_,p⟩:=a Q.1;exact aX (r Q.2) λaa q=>(⟨_,.cons p q⟩)
theorem b5.reads {v:Value} {d:D} (r:b5 h Z v d) (e:noDict d=true):∃as,Reads h v d as:=kH.1 r e
theorem am.reads {ds:List D} (r:am h Z vs ds) (e:noDicts ds=true):∃as,ReadsAll h vs ds as:=kH.2.1 r e
theorem jM:(∀ {v:Value} {d:D},b5 h Z v d->noDict d=true->d.canLay0=true)/\(∀ {vs:List Value} {ds:List D},am h Z vs ds->noDicts ds=true->canLayAll0 ds=true)/\ ∀ {vs:List (Str×Value)} {ds:List (D×D)},aZ h Z vs ds->True:=by
 refine nB (λaa=>rfl) (λb aa=>rfl) (λi t aa=>rfl) (λx t o aa aA=>o) (λaa g aA r e=>r e) (λaa g aA r e=>r e) (λaa aA bF gy e=>nomatch e) (λaa=>rfl) (λa r e=>?_) trivial λaa aA bF gy=>trivial
 exact and_eq_true_iff.mpr ⟨a (and_eq_true_iff.mp e).1,r (and_eq_true_iff.mp e).2⟩
theorem b5.canLay {v:Value} {d:D} (r:b5 h Z v d) (e:noDict d=true):d.canLay0=true:=jM.1 r e
theorem am.canLay {ds:List D} (r:am h Z vs ds) (e:noDicts ds=true):canLayAll0 ds=true:=jM.2.1 r e
theorem am.length {ds:List D} (r:am h Z vs ds):vs.length=ds.length:=am.ind (P:=λvs ds=>vs.length=ds.length) rfl (λaa aA e=>Y7 (· + 1) e) r
theorem am.append {ws:List Value} {ds es:List D} (r:am h Z vs ds) (k:am h Z ws es):am h Z (vs++ws) (ds++es):=am.ind (P:=λvs ds=>am h Z (vs++ws) (ds++es)) k (λa aa e=>.cons a e) r
theorem am.reverse {ds:List D} (r:am h Z vs ds):am h Z vs.reverse ds.reverse:=am.ind (P:=λvs ds=>am h Z vs.reverse ds.reverse) .nil (λa aa e=>by refine Er reverse_cons (Er reverse_cons ?_);exact e.append (.cons a .nil)) r
theorem am.drop {ds:List D} (n:Nat) (r:am h Z vs ds):am h Z (vs.drop n) (ds.drop n):=
 am.ind (P:=λvs ds=> ∀n,am h Z (vs.drop n) (ds.drop n)) (λn=>by cases n<;>exact .nil) (λa r e n=>by cases n with|zero=>exact .cons a r|succ n=>exact e n) r n
theorem am.take {ds:List D} (n:Nat) (r:am h Z vs ds):am h Z (vs.take n) (ds.take n):=
 am.ind (P:=λvs ds=> ∀n,am h Z (vs.take n) (ds.take n)) (λn=>by cases n<;>exact .nil) (λa r e n=>by cases n with|zero=>exact .nil|succ n=>exact .cons a (e n)) r n
theorem am.get {ds:List D} {k:Nat} {d:D} (r:am h Z vs ds) (q:ds[k]? = some d):∃v,vs[k]? = some v/\b5 h Z v d:=
 am.ind (P:=λvs ds=> ∀(k:Nat) (d:D),ds[k]? = some d-> ∃v,vs[k]? = some v/\b5 h Z v d) (λaa aA e=>ah e) (λa r ih k d e=>by
  cases k with
  |zero=>obtain rfl:=aI e;exact⟨_,rfl,a⟩
  |succ k=>exact ih k d e) r k d q
theorem am.getV {ds:List D} {k:Nat} {v:Value} (r:am h Z vs ds) (q:vs[k]? = some v):∃d,ds[k]? = some d/\b5 h Z v d:=
 am.ind (P:=λvs ds=> ∀(k:Nat) (v:Value),vs[k]? = some v-> ∃d,ds[k]? = some d/\b5 h Z v d) (λaa aA e=>ah e) (λa r ih k d e=>by
  cases k with
  |zero=>obtain rfl:=aI e;exact⟨_,rfl,a⟩
  |succ k=>exact ih k d e) r k v q
theorem am.set {ds:List D} (k:Nat) {v:Value} {d:D} (r:am h Z vs ds) (q:b5 h Z v d):am h Z (vs.set k v) (ds.set k d):=
 am.ind (P:=λvs ds=> ∀k,am h Z (vs.set k v) (ds.set k d)) (λaa=>.nil) (λa r e k=>by cases k with|zero=>exact .cons q r|succ k=>exact .cons a (e k)) r k
theorem am.rep {ds:List D} (r:am h Z vs ds):∀n:Nat,am h Z (replicate n vs).flatten (replicate n ds).flatten:=by
 intro n
 induction n with
 |zero=>exact .nil
 |succ n ih=>simpa [List.replicate_succ] using am.append r ih
end
inductive bT (h:Heap) (Z:Addr->Prop) (a:Addr):D->Prop
 |list {vs:List Value} {n:Nat} {ds:List D}:IsL h a vs.toArray n->vs.length<=Sz->am h Z vs ds->bT h Z a (.list ds)
 |dict {kvs:List (Str×Value)} {ds:List (D×D)}:iw h a kvs->kvs.length<=Sz->aZ h Z kvs ds->bT h Z a (.dict ds)
theorem bT.mono {d:D} (hk:∀a o,Z a->h.get? a=some o->h'.get? a=some o) (hz:∀a,Z a->Z' a) (ha:∀o,h.get? a=some o->h'.get? a=some o):bT h Z a d->bT h' Z' a d
 |.list g l r=>.list (ha _ g) l (r.mono hk hz)
 |.dict g l r=>.dict (g.at' ha) l (r.mono hk hz)
theorem bT.live {d:D}:bT h Z a d-> ∃o,h.get? a=some o
 |.list g _ _=>⟨_,g⟩
 |.dict g _ _=>g.live
theorem bT.rep {d:D} (x:bT h Z a d) (hz:∀a,Z a->Z' a) (ha:Z' a):b5 h Z' (.ref a) d:=by
 cases x with
 |list g l r=>exact .list ha g l (r.mono (λaa aA bF e=>e) hz)
 |dict g l r=>exact .dict ha g l (r.mono (λaa aA bF e=>e) hz)
set_option genCtorIdx true in
inductive Loc where|dict (a:Addr) (x:Str)|cell (a:Addr)|attr (a:Addr) (ns:List Str) (x:Str)
noncomputable def Loc.addr:Loc->Addr|.dict a _=>a|.cell a=>a|.attr a _ _=>a
def eG (h:Heap):Loc->Value->Prop
 |.dict a x,v=> ∃m,h.Ns a m/\m x=some v
 |.cell a,v=>h.IsCell a (some v)
 |.attr a ns x,v=> ∃m,(h.Ns1 a m/\Within m ns)/\m x=some v
def nI (h:Heap):Loc->Prop
 |.dict a _=> ∃m,h.Ns a m
 |.cell a=> ∃v,h.IsCell a v
 |.attr a ns _=> ∃m,h.Ns1 a m/\Within m ns
inductive Sep (l k:Loc):Prop
 |dict (a:Addr) (x z:Str):l = .dict a x->k = .dict a z->x≠z->Sep l k
 |attr (a:Addr) (ns:List Str) (x z:Str):l = .attr a ns x->k = .attr a ns z->x≠z->Sep l k
theorem Sep.dict' {k:Loc} {x:Str} (h:Sep k (.dict a x)):∃x',k = .dict a x'/\x'≠x:=by
 cases h with
 |dict b x' z e1 e2 n=>cases e2;exact⟨x',e1,n⟩
 |attr b ns x' z e1 e2 n=>cases e2
theorem Sep.noCell {k:Loc} {p:Prop} (h:Sep k (.cell a)):p:=by
 cases h with
 |dict b x' z e1 e2 n=>cases e2
 |attr b ns x' z e1 e2 n=>cases e2
theorem Sep.attr' {k:Loc} {ns:List Str} {x:Str} (h:Sep k (.attr a ns x)):∃x',k = .attr a ns x'/\x'≠x:=by
 cases h with
 |dict b x' z e1 e2 n=>cases e2
 |attr b ns x' z e1 e2 n=>cases e2;exact⟨x',e1,n⟩
structure Lay where
 loc:Nat->Option Loc
 L:Addr
 F:Addr->Prop
 si:Nat
 slf:Option (Addr×Obj)
structure Lay.Wf (y:Lay):Prop where
 apart:∀i j l k,y.loc i=some l->y.loc j=some k->i≠j->l.addr=k.addr->Sep l k
 nf:∀i l,y.loc i=some l-> ¬y.F l.addr
 nL:¬y.F y.L
 cl:∀i a,y.loc i=some (.cell a)->a≠y.L
 al:∀i a ns x,y.loc i=some (.attr a ns x)->a≠y.L
def dA (h:Heap) (Z O:Addr->Prop):Slot->Value->Prop
 |.no,_=>True
 |.fz d,v=>b5 h Z v d
 |.own d,v=> ∃a,v = .ref a/\O a/\bT h Z a d
 |.exc k,v=> ∃a o C m,v = .ref a/\Z a/\h.get? a=some o/\(o.cls = .ref C/\o.dict=none/\ ∃vs,o.data = .fields vs)/\Z mainGlobals/\h.Ns mainGlobals m/\m k=some (.ref C)
def NR (o:Obj):Prop:= ∀vs,o.data≠ .fields vs
def Lay.wr (y:Lay) (own:Addr->Option Nat) (a:Addr):Prop:=own a≠none\/a=y.L\/ ∃i l,y.loc i=some l/\l.addr=a
structure oE (y:Lay) (Z:Addr->Prop) (h:Heap) (p:Addr×Obj):Prop where
 z:Z p.1
 ob:h.get? p.1=some p.2
 rd:∃l,y.loc y.si=some l/\eG h l (.ref p.1)
theorem oE.mono {y:Lay} {p:Addr×Obj} (x:oE y Z h p) (kz:∀a o,Z a->h.get? a=some o->h'.get? a=some o) (hz:∀a,Z a->Z' a) (kr:∀l v,y.loc y.si=some l->eG h l v->eG h' l v):oE y Z' h' p:=
 ⟨hz _ x.z,kz _ _ x.z x.ob,let ⟨l,hl,r⟩:=x.rd;⟨l,hl,kr l _ hl r⟩⟩
inductive yW (y:Lay) (h:Heap) (Z Ow:Addr->Prop) (i:Nat) (sl:Slot):Prop
 |mk (l:Loc) (v:Value):y.loc i=some l->eG h l v->dA h Z Ow sl v->yW y h Z Ow i sl
structure Inv (y:Lay) (own:Addr->Option Nat) (Z:Addr->Prop) (h:Heap) (fr:Fm):Prop where
 wf:y.Wf
 base:∀a o,B.get? a=some o->h.get? a=some o
 zb:∀a o,B.get? a=some o->Z a
 zo:∀a,Z a->own a=none
 zl:∀i l,y.loc i=some l-> ¬Z l.addr
 ol:∀i l,y.loc i=some l->own l.addr=none
 zL:¬Z y.L
 oL:own y.L=none
 zF:∀a,Z a-> ¬y.F a
 oF:∀a,own a≠none-> ¬y.F a
 zlv:∀a,Z a-> ∃o,h.get? a=some o
 olv:∀a,own a≠none-> ∃o,h.get? a=some o
 flv:∀a,y.F a-> ∃o,h.get? a=some o/\NR o
 ok:∀i l,y.loc i=some l->nI h l
 nsL:∃m,h.Ns y.L m
 sf:∀p,y.slf=some p->oE y Z h p
 at':∀i sl,fr[i]? = some sl->sl≠ .no->yW y h Z (λa=>own a=some i) i sl
structure BU (W F:Addr->Prop) (h h':Heap):Prop where
 keep:∀a o,h.get? a=some o-> ¬W a-> ¬F a->h'.get? a=some o
 live:∀a o,h.get? a=some o-> ∃o',h'.get? a=some o'
 fram:∀a o,F a->h.get? a=some o-> ∃sl,h'.get? a=some {o with slots:=sl}
structure Step (y:Lay) (bv:List Nat) (own:Addr->Option Nat) (Z:Addr->Prop) (s:Shared) (ae:Addr->Option Nat) (Z':Addr->Prop) (s':Shared):Prop where
 sh:∃h' tk,s'={s with heap:=h',toks:=tk}
 ext:BU (y.wr own) y.F s.heap s'.heap
 zm:∀a,Z a->Z' a
 zn:∀a,Z' a->Z a\/own a≠none\/s.heap.get? a=none
 on:∀a i,ae a=some i->own a=some i\/s.heap.get? a=none
 bind:∀i l v,i∉bv->y.loc i=some l->eG s.heap l v->eG s'.heap l v
section
variable {y:Lay} {bv bv':List Nat} {own ae sQ:Addr->Option Nat} {Z Z' mY:Addr->Prop} {s s' dS:Shared} {h h':Heap} {fr cT:Fm}
theorem BU.refl (W F:Addr->Prop) (h:Heap):BU W F h h:=⟨λaa aA e bF gy=>e,λaa o e=>⟨o,e⟩,λaa o aA e=>⟨o.slots,e⟩⟩
theorem BU.trans {W W' F:Addr->Prop} {h h' GH:Heap} (x:BU W F h h') (z:BU W' F h' GH) (hw:∀a,W' a->W a\/h.get? a=none):BU W F h GH where
 keep:=λa o e MQ hf=>z.keep a o (x.keep a o e MQ hf) (λq=>(hw a q).elim MQ λn=>by rw[n]at e;exact ah e) hf
 live:=λa o e=>let ⟨o',e'⟩:=x.live a o e;z.live a o' e'
 fram:=λa o f e=>let ⟨sl,e'⟩:=x.fram a o f e;let ⟨qU,Bm⟩:=z.fram a _ f e';⟨qU,Bm⟩
theorem Step.refl:Step y bv own Z s own Z s:=⟨⟨_,_,rfl⟩,.refl _ _ _,λaa z=>z,λaa z=>.inl z,λaa aA e=>.inl e,λaa aA bF gy xq r=>r⟩
theorem m7 (x:∀a i,ae a=some i->own a=some i\/h.get? a=none) (a:Addr) (w:y.wr ae a):y.wr own a\/h.get? a=none:=by
 rcases w with w|w
 .cases e:ae a with
  |none=>exact absurd e w
  |some i=>exact(x a i e).imp (λq=>.inl (by refine Er q ?_;exact λn=>by cases n)) id
 .exact .inl (.inr w)
theorem Step.trans (x:Step y bv own Z s ae Z' s') (z:Step y bv ae Z' s' sQ mY dS):Step y bv own Z s sQ mY dS where
 sh:=by refine fM x.sh λh' tk Q=>?_;subst Q;refine fM z.sh λGH JY u=>?_;subst u;exact⟨_,_,rfl⟩
 ext:=x.ext.trans z.ext (m7 x.on)
 zm:=λa q=>z.zm a (x.zm a q)
 zn:=λa q=>by
  rcases z.zn a q with q|q|q
  .exact x.zn a q
  .cases e:ae a with
   |none=>exact absurd e q
   |some i=>exact(x.on a i e).elim (λw=>.inr (.inl (by refine Er w ?_;exact λn=>by cases n))) λw=>.inr (.inr w)
  .cases e:s.heap.get? a with
   |none=>exact .inr (.inr rfl)
   |some o=>obtain⟨o',e'⟩:=x.ext.live a o e;rw[q]at e';exact ah e'
 on:=λa i q=>by
  rcases z.on a i q with q|q
  .exact x.on a i q
  .cases e:s.heap.get? a with
   |none=>exact .inr rfl
   |some o=>obtain⟨o',e'⟩:=x.ext.live a o e;rw[q]at e';exact ah e'
 bind:=λi l v hb hl r=>z.bind i l v hb hl (x.bind i l v hb hl r)
theorem Step.sub (x:Step y bv own Z s ae Z' s') (hb:∀i,i∈bv->i∈bv'):Step y bv' own Z s ae Z' s':= {x with bind:=λi l v n hl r=>x.bind i l v (λq=>n (hb i q)) hl r}
theorem Inv.nwr (I:Inv y own Z h fr) (z:Z a):¬y.wr own a:=by
 rintro (w|w|⟨i,l,hl,rfl⟩)
 .exact w (I.zo a z)
 .exact I.zL (w▸z)
 .exact I.zl i l hl z
theorem Inv.keepZ (I:Inv y own Z s.heap fr) (x:BU (y.wr own) y.F s.heap h') (a:Addr) (o:Obj) (z:Z a) (e:s.heap.get? a=some o):h'.get? a=some o:=x.keep a o e (I.nwr z) (I.zF a z)
theorem Step.rep (x:Step y bv own Z s ae Z' s') (I:Inv y own Z s.heap fr) {v:Value} {d:D} (r:b5 s.heap Z v d):b5 s'.heap Z' v d:=r.mono (I.keepZ x.ext) x.zm
theorem Step.repAll (x:Step y bv own Z s ae Z' s') (I:Inv y own Z s.heap fr) {ds:List D} (r:am s.heap Z vs ds):am s'.heap Z' vs ds:=r.mono (I.keepZ x.ext) x.zm
def d6 (y:Lay) (own:Addr->Option Nat) (Z:Addr->Prop) (h₀ h:Heap):Rv->Value->Prop
 |.fz d,v=>b5 h Z v d
 |.own d,v=> ∃a,v = .ref a/\h₀.get? a=none/\ ¬y.wr own a/\ ¬y.F a/\ ¬Z a/\bT h Z a d
 |.pl (.var i),v=> ∃l,y.loc i=some l/\eG h l v
noncomputable def fQ:Rv->List Nat
 |.pl (.var i)=>[i]
 |_=>[]
theorem Step.rv (x:Step y bv own Z s ae Z' s') (I:Inv y own Z s.heap fr) {v:Value} {r:Rv} (hb:∀i∈fQ r,i∉bv) (q:d6 y own Z h₀ s.heap r v):d6 y ae Z' h₀ s'.heap r v:=by
 cases r with
 |fz d=>exact x.rep I q
 |own d=>
  obtain⟨a,q⟩:=q;refine Er q.1 ?_;obtain⟨o,ho⟩:=q.2.2.2.2.2.live;refine⟨a,rfl,q.2.1,λw=>?_,q.2.2.2.1,λz=>?_,q.2.2.2.2.2.mono (I.keepZ x.ext) x.zm λo e=>x.ext.keep a o e q.2.2.1 q.2.2.2.1⟩
  .rcases m7 x.on a w with w|w
   .exact q.2.2.1 w
   .rw[w]at ho;exact ah ho
  .rcases x.zn a z with z|z|z
   .exact q.2.2.2.2.1 z
   .exact q.2.2.1 (.inl z)
   .rw[z]at ho;exact ah ho
 |pl p=>
  cases p with
  |var i=>obtain⟨l,q⟩:=q;exact⟨l,q.1,x.bind i l v (hb i (by simp[fQ])) q.1 q.2⟩
theorem d6.since {h₀ h₁ h:Heap} (k:∀a,h₁.get? a=none->h₀.get? a=none) {v:Value} {r:Rv} (q:d6 y own Z h₁ h r v):d6 y own Z h₀ h r v:=by
 cases r with
 |fz d=>exact q
 |own d=>exact aX q λa q=>(⟨a,q.1,k a q.2.1,q.2.2⟩)
 |pl p=>cases p<;>exact q
theorem Step.old (x:Step y bv own Z s ae Z' s') (a:Addr) (e:s'.heap.get? a=none):s.heap.get? a=none:=by
 cases q:s.heap.get? a with
 |none=>rfl
 |some o=>refine aX (x.ext.live a o q) λo' e'=>?_;rw[e]at e';exact ah e'
theorem Step.addZ (x:Step y bv own Z s ae Z' s') (e:s.heap.get? a=none):Step y bv own Z s ae (λb=>Z' b\/b=a) s':=
 {x with
  zm:=λb z=>.inl (x.zm b z)
  zn:=λb z=>z.elim (x.zn b) λq=>.inr (.inr (q▸e))}
theorem dA.mono {O O':Addr->Prop} {sl:Slot} {v:Value} (hk:∀a o,Z a->h.get? a=some o->h'.get? a=some o) (hz:∀a,Z a->Z' a) (ho:∀a,O a->O' a) (Ok:∀a o,O a->h.get? a=some o->h'.get? a=some o)
  (x:dA h Z O sl v):dA h' Z' O' sl v:=by
 cases sl with
 |no=>trivial
 |fz d=>exact b5.mono hk hz x
 |own d=>obtain⟨a,rfl,oa,w⟩:=x;exact⟨a,rfl,ho a oa,w.mono hk hz λo e=>Ok a o oa e⟩
 |exc _=>refine lM x λa o C m x=>?_;refine Er x.1 ?_;exact⟨a,o,C,m,rfl,hz a x.2.1,hk a o x.2.1 x.2.2.1,x.2.2.2.1,hz _ x.2.2.2.2.1,x.2.2.2.2.2.1.at' λo=>hk _ o x.2.2.2.2.1,x.2.2.2.2.2.2⟩
theorem eG.keeps {l:Loc} {v:Value} (k:∀o,h.get? l.addr=some o->h'.get? l.addr=some o) (x:eG h l v):eG h' l v:=by
 cases l with
 |dict a z=>refine aX x λm x=>?_;have hn:=x.1;have e:=x.2;exact⟨m,hn.at' k,e⟩
 |cell a=>exact aX x λo x=>(⟨o,k _ x.1,x.2⟩)
 |attr a ns z=>obtain⟨m,⟨⟨o,es,ep,e1,r⟩,w⟩,e⟩:=x;exact⟨m,⟨⟨o,es,ep,k o e1,r⟩,w⟩,e⟩
theorem nI.keeps {l:Loc} (k:∀o,h.get? l.addr=some o->h'.get? l.addr=some o) (x:nI h l):nI h' l:=by
 cases l with
 |dict a z=>exact aX x λm hn=>(⟨m,hn.at' k⟩)
 |cell a=>exact fM x λv o x=>(⟨v,o,k _ x.1,x.2⟩)
 |attr a ns z=>obtain⟨m,⟨o,es,ep,e1,r⟩,w⟩:=x;exact⟨m,⟨o,es,ep,k o e1,r⟩,w⟩
theorem nI.live {l:Loc} (x:nI h l):∃o,h.get? l.addr=some o:=by
 cases l with
 |dict a z=>refine lM x λm o aa aA x=>?_;have ho:=x.1;exact⟨o,ho⟩
 |cell a=>refine fM x λv o x=>?_;have ho:=x.1;have hd:=x.2;exact⟨o,ho⟩
 |attr a ns z=>obtain⟨m,⟨o,_,_,ho,_⟩,_⟩:=x;exact⟨o,ho⟩
theorem Inv.grow (I:Inv y own Z h fr) (k:∀b o,h.get? b=some o->h'.get? b=some o):Inv y own Z h' fr where
 wf:=I.wf
 base:=λa o e=>k a o (I.base a o e)
 zb:=I.zb
 zo:=I.zo
 zl:=I.zl
 ol:=I.ol
 zL:=I.zL
 oL:=I.oL
 zF:=I.zF
 oF:=I.oF
 zlv:=λa z=>let ⟨o,e⟩:=I.zlv a z;⟨o,k a o e⟩
 olv:=λa z=>let ⟨o,e⟩:=I.olv a z;⟨o,k a o e⟩
 flv:=λa z=>let ⟨o,e,q⟩:=I.flv a z;⟨o,k a o e,q⟩
 ok:=λi l e=>(I.ok i l e).keeps λo=>k _ o
 nsL:=let ⟨m,hn⟩:=I.nsL;⟨m,hn.keeps k⟩
 sf:=λp e=>(I.sf p e).mono (λa o aa=>k a o) (λaa z=>z) λl v aa r=>r.keeps λo=>k _ o
 at':=λi sl e n=>let ⟨l,v,hl,r,q⟩:=I.at' i sl e n;⟨l,v,hl,r.keeps λo=>k _ o,q.mono (λa o aa=>k a o) (λaa z=>z) (λaa z=>z) λa o aa=>k a o⟩
theorem Step.grow {tk:Nat} (k:∀b o,s.heap.get? b=some o->h'.get? b=some o):Step y bv own Z s own Z {s with heap:=h',toks:=tk} where
 sh:=⟨_,_,rfl⟩
 ext:=⟨λa o e aa aA=>k a o e,λa o e=>⟨o,k a o e⟩,λa o aa e=>⟨o.slots,k a o e⟩⟩
 zm:=λaa z=>z
 zn:=λaa z=>.inl z
 on:=λaa aA e=>.inl e
 bind:=λi l v aa aA r=>r.keeps λo=>k _ o
theorem Inv.addZ (I:Inv y own Z h fr) {o:Obj} (nw:¬y.wr own a) (nf:¬y.F a) (e:h.get? a=some o):Inv y own (λb=>Z b\/b=a) h fr where
 wf:=I.wf
 base:=I.base
 zb:=λa o e=>.inl (I.zb a o e)
 zo:=λb z=>z.elim (I.zo b) λq=>by
  cases w:own b with
  |none=>rfl
  |some i=>exact absurd (.inl (by refine Er q.symm (Er w ?_);exact λn=>by cases n)) nw
 zl:=λi l e z=>z.elim (I.zl i l e) λq=>nw (.inr (.inr ⟨i,l,e,q⟩))
 ol:=I.ol
 zL:=λz=>z.elim I.zL λq=>nw (.inr (.inl q.symm))
 oL:=I.oL
 zF:=λb z=>z.elim (I.zF b) λq=>q▸nf
 oF:=I.oF
 zlv:=λb z=>z.elim (I.zlv b) λq=>⟨o,q▸e⟩
 olv:=I.olv
 flv:=I.flv
 ok:=I.ok
 nsL:=I.nsL
 sf:=λp e=>(I.sf p e).mono (λaa aA bF e=>e) (λaa z=>.inl z) λaa aA bF r=>r
 at':=λi sl e n=>let ⟨l,v,hl,r,q⟩:=I.at' i sl e n;⟨l,v,hl,r,q.mono (λaa aA bF e=>e) (λaa z=>.inl z) (λaa z=>z) λaa aA bF e=>e⟩
theorem Inv.fresh (I:Inv y own Z h fr) (e:h.get? a=none):¬y.wr own a/\ ¬y.F a/\ ¬Z a:=by
 refine⟨?_,λf=>?_,λz=>?_⟩
 .rintro (w|w|⟨i,l,hl,rfl⟩)
  .obtain⟨o,q⟩:=I.olv a w;rw[e]at q;exact ah q
  .refine lM I.nsL λm o aa aA Q=>?_;have q:=Q.1;rw[<- w,e]at q;exact ah q
  .obtain⟨o,q⟩:=(I.ok i l hl).live;rw[e]at q;exact ah q
 .obtain⟨o,u⟩:=I.flv a f;have q:=u.1;rw[e]at q;exact ah q
 .obtain⟨o,q⟩:=I.zlv a z;rw[e]at q;exact ah q
theorem Step.growZ {tk:Nat} (k:∀b o,s.heap.get? b=some o->h'.get? b=some o) (e:s.heap.get? a=none):Step y bv own Z s own (λb=>Z b\/b=a) {s with heap:=h',toks:=tk} where
 sh:=⟨_,_,rfl⟩
 ext:=⟨λa o e aa aA=>k a o e,λa o e=>⟨o,k a o e⟩,λa o aa e=>⟨o.slots,k a o e⟩⟩
 zm:=λaa z=>.inl z
 zn:=λb z=>z.elim .inl λq=>.inr (.inr (q▸e))
 on:=λaa aA e=>.inl e
 bind:=λi l v aa aA r=>r.keeps λo=>k _ o
theorem Inv.growZ (I:Inv y own Z h fr) {o:Obj} (k:∀b o,h.get? b=some o->h'.get? b=some o) (e:h.get? a=none) (e':h'.get? a=some o):Inv y own (λb=>Z b\/b=a) h' fr:=
 (I.grow k).addZ (I.fresh e).1 (I.fresh e).2.1 e'
set_option tactic.hygienic true in
theorem dQ {fr:Fm} {sl qU:Slot} (e:(fr.set i sl)[j]? = some qU):(j=i/\qU=sl)\/(j≠i/\fr[j]? = some qU):=by
 rw[List.getElem?_set]at e
 split at e
 .rename_i q
  split at e
  .exact .inl ⟨q.symm,(Y9 e).symm⟩
  .exact ah e
 .rename_i q;exact .inr ⟨λw=>q w.symm,e⟩
theorem Inv.forget (I:Inv y own Z h fr) (i:Nat):Inv y own Z h (fr.set i .no):=
 {I with
  at':=by
   intro j sl e n
   rcases dQ e with⟨rfl,rfl⟩|⟨_,e⟩
   .exact absurd rfl n
   .exact I.at' j sl e n}
theorem Inv.clr (I:Inv y own Z h fr):∀l:List Nat,Inv y own Z h (clr fr l):=by
 intro l
 induction l generalizing fr with
 |nil=>exact I
 |cons i l ih=>exact ih (I.forget i)
noncomputable def il (own:Addr->Option Nat) (a:Addr):Addr->Option Nat:=λb=>if b=a then none else own b
noncomputable def addO (own:Addr->Option Nat) (a:Addr) (i:Nat):Addr->Option Nat:=λb=>if b=a then some i else own b
set_option tactic.hygienic true in
theorem rX {b:Addr} (e:il own a b=some j):own b=some j/\b≠a:=by
 unfold il at e;split at e
 .exact ah e
 .rename_i q;exact⟨e,q⟩
set_option tactic.hygienic true in
theorem qh {b:Addr} (e:il own a b≠none):own b≠none/\b≠a:=by
 unfold il at e;split at e
 .exact absurd rfl e
 .rename_i q;exact⟨e,q⟩
inductive C3 (y:Lay) (own:Addr->Option Nat) (Z:Addr->Prop) (h:Heap) (fr:Fm) (i:Nat) (d:D):Prop
 |mk (l:Loc) (a:Addr):y.loc i=some l->eG h l (.ref a)->own a=some i->b5 h (λb=>Z b\/b=a) (.ref a) d->Inv y (il own a) (λb=>Z b\/b=a) h (fr.set i (.fz d))->C3 y own Z h fr i d
set_option tactic.hygienic true in
theorem Inv.freeze (I:Inv y own Z h fr) {d:D} (hs:fr[i]? = some (.own d)):
  C3 y own Z h fr i d:=by
 obtain⟨l,v,hl,hr,a,rfl,oa,w⟩:=I.at' i _ hs (by intro n;cases n);have on:own a≠none:=by exact Er oa (λn=>by cases n)
 refine aX w.live λo ho=>?_
 have R:b5 h (λb=>Z b\/b=a) (.ref a) d:=w.rep (λaa z=>.inl z) (.inr rfl);refine⟨l,a,hl,hr,oa,R,⟨I.wf,I.base,λb o e=>.inl (I.zb b o e),λb z=>?_,λj k e z=>?_,λj k e=>?_,λz=>?_,?_,λb z=>?_,λb z=>I.oF b (qh z).1,λb z=>z.elim (I.zlv b) λq=>⟨o,q▸ho⟩,λb z=>I.olv b (qh z).1,I.flv,I.ok,I.nsL,λp e=>(I.sf p e).mono (λaa aA bF e=>e) (λaa z=>.inl z) λaa aA bF r=>r,λj sl e n=>?_⟩⟩
 .unfold il;split
  .rfl
  .exact z.elim (I.zo b) λq=>absurd q ‹_›
 .exact z.elim (I.zl j k e) λq=>by have:=I.ol j k e;rw[q]at this;have this:=oa▸this;cases this
 .unfold il;split
  .rfl
  .exact I.ol j k e
 .exact z.elim I.zL λq=>by have:=I.oL;have this:=q▸this;have this:=oa▸this;cases this
 .unfold il;split
  .rfl
  .exact I.oL
 .exact z.elim (I.zF b) λq=>q▸I.oF a on
 .rcases dQ e with⟨rfl,rfl⟩|⟨df,e⟩
  .exact⟨l,.ref a,hl,hr,R⟩
  .obtain⟨k,v,hk,r,q⟩:=I.at' j sl e n
   refine⟨k,v,hk,r,q.mono (λaa aA bF e=>e) (λaa z=>.inl z) (λb z=>?_) λaa aA bF e=>e⟩;unfold il;split
   .rename_i w';rw[w',oa]at z;exact absurd (Y9 z).symm df
   .exact z
theorem Step.freeze (oa:own a=some i):Step y bv own Z s (il own a) (λb=>Z b\/b=a) s where
 sh:=⟨_,_,rfl⟩
 ext:=.refl _ _ _
 zm:=λaa z=>.inl z
 zn:=λb z=>z.elim .inl λq=>.inr (.inl (by refine Er q (Er oa ?_);exact λn=>by cases n))
 on:=λb j e=>.inl (rX e).1
 bind:=λaa aA bF gy xq r=>r
theorem Inv.chg (I:Inv y own Z h fr) {l:Loc} (hl:y.loc i=some l) (hk:∀a o,a≠l.addr->h.get? a=some o->h'.get? a=some o)
  (ho:∀j k w,j≠i->y.loc j=some k->eG h k w->eG h' k w) (hok:∀j k,y.loc j=some k->nI h' k) (ER:∃m,h'.Ns y.L m) (hi:∀p,y.slf=some p->y.si≠i):Inv y own Z h' (fr.set i .no):=by
 have kz:∀a o,Z a->h.get? a=some o->h'.get? a=some o:=λa o z e=>hk a o (λq=>I.zl i l hl (q▸z)) e
 have ko:∀a o,own a≠none->h.get? a=some o->h'.get? a=some o:=λa o z e=>hk a o (λq=>z (q▸I.ol i l hl)) e
 refine⟨I.wf,λa o e=>kz a o (I.zb a o e) (I.base a o e),I.zb,I.zo,I.zl,I.ol,I.zL,I.oL,I.zF,I.oF,λa z=>?_,λa z=>?_,λa f=>?_,hok,ER,λp e=>(I.sf p e).mono kz (λaa z=>z) λl v cz r=>ho _ l v (hi p e) cz r,λj sl e n=>?_⟩
 .obtain⟨o,e⟩:=I.zlv a z;exact⟨o,kz a o z e⟩
 .obtain⟨o,e⟩:=I.olv a z;exact⟨o,ko a o z e⟩
 .obtain⟨o,Q⟩:=I.flv a f
  exact⟨o,hk a o (λq=>I.wf.nf i l hl (q▸f)) Q.1,Q.2⟩
 .rcases dQ e with⟨rfl,rfl⟩|⟨df,e⟩
  .exact absurd rfl n
  .obtain⟨k,w,eF,r,q⟩:=I.at' j sl e n
   exact⟨k,w,eF,ho j k w df eF r,q.mono kz (λaa z=>z) (λaa z=>z) λa o z=>ko a o (by refine Er z ?_;exact λn=>by cases n)⟩
theorem Inv.setSl {l:Loc} {v:Value} {sl:Slot} (I:Inv y own Z h' (fr.set i .no)) (hl:y.loc i=some l) (hr:eG h' l v) (R:dA h' Z (λa=>own a=some i) sl v):Inv y own Z h' (fr.set i sl):=by
 refine {I with at':=λj qU e n=>?_}
 rcases dQ e with⟨rfl,rfl⟩|⟨df,e⟩
 .exact⟨l,v,hl,hr,R⟩
 .exact I.at' j qU (by refine Er (List.getElem?_set_ne (Ne.symm df)) ?_;exact e) n
theorem Inv.setFz (I:Inv y own Z h fr) {l:Loc} {v:Value} {d:D} (hl:y.loc i=some l) (hk:∀a o,a≠l.addr->h.get? a=some o->h'.get? a=some o) (O5:∃o,h'.get? l.addr=some o)
  (hr:eG h' l v) (ho:∀j k w,j≠i->y.loc j=some k->eG h k w->eG h' k w) (hok:∀j k,y.loc j=some k->nI h' k) (ER:∃m,h'.Ns y.L m) (hi:∀p,y.slf=some p->y.si≠i) (R:b5 h Z v d):Inv y own Z h' (fr.set i (.fz d)):=
 (I.chg hl hk ho hok ER hi).setSl hl hr (show b5 h' Z v d from R.mono (λa o z e=>hk a o (λq=>I.zl i l hl (q▸z)) e) λaa z=>z)
theorem vz:addO own a i a=some i:=by simp[addO]
theorem ff {b:Addr} (q:b≠a):addO own a i b=own b:=by simp[addO,q]
theorem Inv.setOwn (I:Inv y own Z h fr) {l:Loc} {d:D} (hl:y.loc i=some l) (hk:∀a o,a≠l.addr->h.get? a=some o->h'.get? a=some o)
  (hr:eG h' l (.ref a)) (ho:∀j k w,j≠i->y.loc j=some k->eG h k w->eG h' k w) (hok:∀j k,y.loc j=some k->nI h' k) (ER:∃m,h'.Ns y.L m) (hi:∀p,y.slf=some p->y.si≠i)
  (nw:¬y.wr own a) (nf:¬y.F a) (nz:¬Z a) (w:bT h Z a d):Inv y (addO own a i) Z h' (fr.set i (.own d)):=by
 have kz:∀a o,Z a->h.get? a=some o->h'.get? a=some o:=λa o z e=>hk a o (λq=>I.zl i l hl (q▸z)) e
 have ko:∀a o,own a≠none->h.get? a=some o->h'.get? a=some o:=λa o z e=>hk a o (λq=>z (q▸I.ol i l hl)) e
 have ka:∀o,h.get? a=some o->h'.get? a=some o:=λo e=>hk a o (λq=>nw (.inr (.inr ⟨i,l,hl,q.symm⟩))) e
 have na:own a=none:=by
  cases e:own a with
  |none=>rfl
  |some j=>exact absurd (.inl (by refine Er e ?_;exact λn=>by cases n)) nw
 have nl:∀j k,y.loc j=some k->k.addr≠a:=λj k e q=>nw (.inr (.inr ⟨j,k,e,q⟩))
 obtain⟨oa,Lo⟩:=w.live;refine⟨I.wf,λa o e=>kz a o (I.zb a o e) (I.base a o e),I.zb,λb z=>?_,I.zl,λj k e=>?_,I.zL,?_,I.zF,λb z=>?_,λb z=>?_,λb z=>?_,λb f=>?_,hok,ER,λp e=>(I.sf p e).mono kz (λaa z=>z) λl v cz r=>ho _ l v (hi p e) cz r,λj sl e n=>?_⟩
 .have q:b≠a:=λq=>nz (q▸z)
  exact Er (ff q) (I.zo b z)
 .exact Er (ff (nl j k e)) (I.ol j k e)
 .have q:y.L≠a:=λq=>nw (.inr (.inl q.symm))
  exact Er (ff q) I.oL
 .by_cases q:b=a
  .exact q▸nf
  .rw[ff q]at z;exact I.oF b z
 .obtain⟨o,e⟩:=I.zlv b z;exact⟨o,kz b o z e⟩
 .by_cases q:b=a
  .exact⟨oa,q▸ka oa Lo⟩
  .rw[ff q]at z;obtain⟨o,e⟩:=I.olv b z;exact⟨o,ko b o z e⟩
 .obtain⟨o,Q⟩:=I.flv b f
  exact⟨o,hk b o (λq=>I.wf.nf i l hl (q▸f)) Q.1,Q.2⟩
 .rcases dQ e with⟨rfl,rfl⟩|⟨df,e⟩
  .exact⟨l,.ref a,hl,hr,a,rfl,vz,w.mono kz (λaa z=>z) ka⟩
  .obtain⟨k,w,eF,r,q⟩:=I.at' j sl e n
   refine⟨k,w,eF,ho j k w df eF r,q.mono kz (λaa z=>z) (λb z=>?_) λa o z=>ko a o (by refine Er z ?_;exact λn=>by cases n)⟩;rw[ff]
   .exact z
   .intro q;rw[q,na]at z;exact ah z
theorem Inv.setC (I:Inv y own Z h fr) {d d':D} (hs:fr[i]? = some (.own d)) {l:Loc} (hl:y.loc i=some l) (hr:eG h l (.ref a)) (oa:own a=some i)
  (hk:∀b o,b≠a->h.get? b=some o->h'.get? b=some o) (w:bT h' Z a d'):Inv y own Z h' (fr.set i (.own d')):=by
 have on:own a≠none:=by exact Er oa (λn=>by cases n)
 have kz:∀b o,Z b->h.get? b=some o->h'.get? b=some o:=λb o z e=>hk b o (λq=>on (q▸I.zo b z)) e
 have kl:∀j k,y.loc j=some k-> ∀o,h.get? k.addr=some o->h'.get? k.addr=some o:=λj k e o=>hk _ o λq=>on (q▸I.ol j k e)
 obtain⟨B8,Lo⟩:=w.live;refine⟨I.wf,λa o e=>kz a o (I.zb a o e) (I.base a o e),I.zb,I.zo,I.zl,I.ol,I.zL,I.oL,I.zF,I.oF,λb z=>?_,λb z=>?_,λb f=>?_,λj k e=>(I.ok j k e).keeps (kl j k e),?_,λp e=>(I.sf p e).mono kz (λaa z=>z) λl v cz r=>r.keeps (kl _ _ cz),λj sl e n=>?_⟩
 .obtain⟨o,e⟩:=I.zlv b z;exact⟨o,kz b o z e⟩
 .by_cases q:b=a
  .exact⟨B8,q▸Lo⟩
  .obtain⟨o,e⟩:=I.olv b z;exact⟨o,hk b o q e⟩
 .obtain⟨o,Q⟩:=I.flv b f
  exact⟨o,hk b o (λq=>I.oF a on (q▸f)) Q.1,Q.2⟩
 .obtain⟨m,hn⟩:=I.nsL
  exact⟨m,hn.at' λo=>hk _ o λq=>on (q▸I.oL)⟩
 .rcases dQ e with⟨rfl,rfl⟩|⟨df,e⟩
  .exact⟨l,.ref a,hl,hr.keeps (kl _ _ hl),a,rfl,oa,w⟩
  .obtain⟨k,v,eF,r,q⟩:=I.at' j sl e n
   refine⟨k,v,eF,r.keeps (kl _ _ eF),q.mono kz (λaa z=>z) (λaa z=>z) λb o z e=>hk b o (λq=>?_) e⟩;rw[q,oa]at z;exact df (Y9 z).symm
end
def dE (h:Heap) (Z:Addr->Prop) (v:Value) (d:D):Prop:=b5 h Z v d\/ ∃a,v = .ref a/\bT h Z a d
section
variable {h h':Heap} {Z Z':Addr->Prop} {v:Value}
theorem b5.dat {d:D} (r:b5 h Z v d):dE h Z v d:=.inl r
inductive Gw (v:Value) (i:Int):Prop
 |mk (t:_):v = .int i t->Gw v i
inductive Go (v:Value) (x:Str):Prop
 |mk (t:_):v = .str x t->PyData.strOk x=true->x.cps.size<=Sz->Go v x
inductive Gu (h:Heap) (Z:Addr->Prop) (v:Value) (ds:List D):Prop
 |mk (a:Addr) (vs:List Value) (n:Nat):v = .ref a->IsL h a vs.toArray n->vs.length<=Sz->am h Z vs ds->Gu h Z v ds
inductive Gn (h:Heap) (Z:Addr->Prop) (v:Value) (ds:List D):Prop
 |mk (a:Addr) (vs:List Value) (n:Nat):v = .ref a->IsT h a vs.toArray n->vs.length<=Sz->am h Z vs ds->Z a->Gn h Z v ds
inductive Gv (h:Heap) (Z:Addr->Prop) (v:Value) (ds:List (D×D)):Prop
 |mk (a:Addr) (kvs:List (Str×Value)):v = .ref a->iw h a kvs->kvs.length<=Sz->aZ h Z kvs ds->Gv h Z v ds
def Gs (h:Heap) (Z:Addr->Prop) (v:Value):D->Prop
 |.none=>v = .none
 |.bool b=>v = .bool b
 |.int i=>Gw v i
 |.str x=>Go v x
 |.list ds=>Gu h Z v ds
 |.tuple ds=>Gn h Z v ds
 |.dict ds=>Gv h Z v ds
theorem dE.q {d:D} (r:dE h Z v d):Gs h Z v d:=r.elim
 (λr=>b5.casesOn (motive_1:=λv d aa=>Gs h Z v d) r rfl (λaa=>rfl) (λaa t=>⟨t,rfl⟩) (λaa t o l=>⟨t,rfl,o,l⟩) (λaa g l r=>⟨_,_,_,rfl,g,l,r⟩) (λz g l r=>⟨_,_,_,rfl,g,l,r,z⟩) (λaa g l r=>⟨_,_,rfl,g,l,r⟩))
 λ⟨a,e,w⟩=>Er e (bT.casesOn (motive:=λd aa=>Gs h Z (.ref a) d) w (λg l r=>⟨_,_,_,rfl,g,l,r⟩) (λg l r=>⟨_,_,rfl,g,l,r⟩))
theorem dE.none (r:dE h Z v .none):v = .none:=r.q
theorem dE.bool {b:Bool} (r:dE h Z v (.bool b)):v = .bool b:=r.q
theorem dE.int {i:Int} (r:dE h Z v (.int i)):Gw v i:=r.q
theorem dE.str {x:Str} (r:dE h Z v (.str x)):Go v x:=r.q
theorem dE.list {ds:List D} (r:dE h Z v (.list ds)):Gu h Z v ds:=r.q
theorem dE.tuple {ds:List D} (r:dE h Z v (.tuple ds)):Gn h Z v ds:=r.q
theorem dE.dict {ds:List (D×D)} (r:dE h Z v (.dict ds)):Gv h Z v ds:=r.q
theorem bT.reads {d:D} (x:bT h Z a d) (e:noDict d=true):∃as,Reads h (.ref a) d as:=by
 cases x with
 |list g l r=>obtain⟨as,q⟩:=r.reads e;exact⟨_,.list g rfl rfl q⟩
 |dict g l r=>cases e
theorem dE.reads {d:D} (r:dE h Z v d) (e:noDict d=true):∃as,Reads h v d as:=by
 rcases r with r|⟨a,rfl,r⟩
 .exact r.reads e
 .exact r.reads e
theorem dE.canLay {d:D} (r:dE h Z v d) (e:noDict d=true):d.canLay0=true:=by
 rcases r with r|⟨a,rfl,r⟩
 .exact r.canLay e
 .cases r with
  |list g l r=>rw[canLay0];exact r.canLay e
  |dict g l r=>cases e
end
theorem aZ.isSome {vs:List (Str×Value)} {ds:List (D×D)} {k:Str} (r:aZ h Z vs ds):(valueAt vs k).isSome=(bS ds k).isSome:=by
 rcases r.get (k:=k) with⟨h1,h2⟩|⟨v,d,h1,h2,_⟩<;>exact Er h1 (Er h2 rfl)<;>rfl
inductive tY (Z:Addr->Prop) (h h':Heap):Rv->Value->Prop
 |old {d:D} {v:Value}:b5 h' Z v d->tY Z h h' (.fz d) v
 |new {a:Addr} {o:Obj} {d:D}:h.get? a=none->h'.get? a=some o->b5 h' (λb=>Z b\/b=a) (.ref a) d->tY Z h h' (.fz d) (.ref a)
 |own {a:Addr} {d:D}:h.get? a=none->bT h' Z a d->tY Z h h' (.own d) (.ref a)
inductive Op (Z:Addr->Prop) (s:Shared) (r:Rv) (v:Value) (s':Shared):Prop
 |mk (h':Heap) (tk:Nat):s'={s with heap:=h',toks:=tk}->(∀b o,s.heap.get? b=some o->h'.get? b=some o)->tY Z s.heap h' r v->Op Z s r v s'
theorem A4 (h:Heap):h.get? h.objs.size=none:=by
 cases q:h.get? h.objs.size with
 |none=>rfl
 |some o=>exact absurd (ZZ q) (Zg _)
theorem pK (o:Obj) (b:Addr) (x:Obj) (e:h.get? b=some x):(h.push o).get? b=some x:=Z2 o e
section
variable {Z:Addr->Prop} {s:Shared}
theorem Op.val {d:D} {v:Value} (r:b5 s.heap Z v d):Op Z s (.fz d) v s:=⟨s.heap,s.toks,rfl,λaa aA e=>e,.old r⟩
theorem Op.valT {d:D} {v:Value} {tk:Nat} (r:b5 s.heap Z v d):Op Z s (.fz d) v {s with toks:=tk}:=⟨s.heap,tk,rfl,λaa aA e=>e,.old r⟩
theorem Op.bool {b:Bool}:Op Z s (.fz (.bool b)) (.bool b) s:=.val (.bool b)
theorem Op.int {i:Int} {t tk:Nat}:Op Z s (.fz (.int i)) (.int i t) {s with toks:=tk}:=.valT (.int i t)
theorem Op.newL {vs:List Value} {ds:List D} {n:Nat} (r:am s.heap Z vs ds) (hl:vs.length≤Sz) :Op Z s (.own (.list ds)) (.ref s.heap.objs.size) {s with heap:=s.heap.push {cls:=.type "list",data:=.seq vs.toArray n}}:=
 ⟨_,s.toks,rfl,pK _,.own (A4 _) (.list (Z1 _ rfl) hl (r.mono (λa o aa e=>pK _ a o e) λaa z=>z))⟩
theorem Op.newT {vs:List Value} {ds:List D} {n:Nat} (r:am s.heap Z vs ds) (hl:vs.length≤Sz) :Op Z s (.fz (.tuple ds)) (.ref s.heap.objs.size) {s with heap:=s.heap.push {cls:=.type "tuple",data:=.seq vs.toArray n}}:=
 ⟨_,s.toks,rfl,pK _,.new (A4 _) (Z1 _ rfl) (.tuple (.inr rfl) (Z1 _ rfl) hl (r.mono (λa o aa e=>pK _ a o e) λaa z=>.inl z))⟩
end
theorem b6:Sz=sizeLine:=by decide
section
variable {A:Around} {E:Value->Shared->Prop} {s:Shared} {Z:Addr->Prop} {a b:Value}
set_option tactic.hygienic true in
theorem intBits_le {x:Int} (h:x.natAbs<2 ^ 64):Builtin.Int.intBits x<=64:=by
 unfold Builtin.Int.intBits
 split
 .exact Zc _
 .rename_i q
  have hx:x.natAbs≠0:=by intro e;exact q (by simpa using e)
  exact(Nat.log2_lt hx).mpr h
theorem ru {x z:Int} (h:pB x z=true):IntMulOk x z:=by
 rcases or_eq_true_iff.mp h with h|h
 .exact .of_left (intBits_le (YZ h))
 .exact .of_right (intBits_le (YZ h))
theorem nq {x z:Str} (h:PyData.strOk x=true) (k:PyData.strOk z=true):PyData.strOk (x++z)=true:=by
 unfold PyData.strOk at *;refine Er Array.all_append (Er h (Er k ?_));rfl
theorem Hv (n:Int) (xs:List α):rep n xs=(replicate n.toNat xs).flatten:=rfl
theorem nA (n:Int) (xs:List α):(rep n xs).length=xs.length*n.toNat:=by
 unfold rep;refine Er List.length_flatten ?_;simp[mul_comm]
theorem ua (xs:List Nat) (k:Nat) (acc:List Nat):(replicate k xs.toArray).foldl (· ++ ·) acc.toArray=(acc++(replicate k xs).flatten).toArray:=by
 induction k generalizing acc with
 |zero=>simp
 |succ k ih=>
  refine Er List.replicate_succ ?_;refine Er List.foldl_cons ?_;rw[List.append_toArray,ih,List.replicate_succ,List.flatten_cons,ZP]
set_option tactic.hygienic true in
theorem zk (x:Str) (n:Int):Txt.mul x n=⟨(rep n x.cps.toList).toArray⟩:=by
 obtain⟨⟨l⟩⟩:=x;unfold Txt.mul rep
 split
 .rename_i h
  have e:n.toNat=0:=by omega
  refine Er e ?_;rfl
 .rename_i h
  split
  .rename_i q
   rcases or_eq_true_iff.mp q with q|q
   .have e:n=1:=by simpa using q
    subst e;simp
   .have e:l=[]:=by simpa [Str.length] using q
    subst e;simp
  .have:=ua l n.toNat []
   simpa using Y7 Str.mk this
theorem ue {x:Str} (n:Int) (h:PyData.strOk x=true):PyData.strOk ⟨(rep n x.cps.toList).toArray⟩=true:=by
 unfold PyData.strOk at *;rw[<- all_toList]at *;rw[ZQ]at *;intro c hc;have pS:c∈rep n x.cps.toList:=by exact hc
 unfold rep at pS;obtain⟨l,hl,hm⟩:=List.mem_flatten.mp pS;rw[List.eq_of_mem_replicate hl]at hm;exact h c hm
set_option tactic.hygienic true in
theorem wA {x z:Int} (h:z.natAbs<2 ^ 64):Builtin.divisionGoesByPylong x z=false:=by
 unfold Builtin.divisionGoesByPylong;have:(if (z==0)=true then 0 else z.natAbs.log2 / 30+1)<=300:=by
  split
  .exact Zc _
  .rename_i q
   have hz:z.natAbs≠0:=by intro e;exact q (by simpa using e)
   have:=(Nat.log2_lt hz).mpr h;exact(bC [z.natAbs.log2 / (30:Nat),z.natAbs.log2,z.natAbs.log2 % (30:Nat)] [] 30 (.w (.p 1 .x) (.c 300)) [Gl (.p 1 .y) (.c 64),Ge (.a (.m 30 .x) .z) .y] rfl this (Nat.div_add_mod (z.natAbs.log2) 30))
 simp only;refine Er (Y6 (by exact(λEv=>(Lf [if (z==(0:Int))=true then(0:Nat) else z.natAbs.log2 / (30:Nat)+(1:Nat)] [Gl .x (.c 300),Gl (.p 1 (.c 300)) .x] rfl this Ev)))) ?_
 rfl
theorem uy {a b:Int} {r:Rv} (h:uz a b=some r):pB a b=true/\ .fz (.int (a*b))=r:=eO h
set_option tactic.hygienic true in
theorem Ef {o:lE} {op:Operator} {d e:D} {r:Rv} (ho:op=(match o with|.add=>.Add|.sub=>.Sub|.mul=>.Mult|.fdiv=>.FloorDiv|.mod=>.Mod|.pow=>.Pow)) (he:op2 o d e=some r) (ra:dE s.heap Z a d) (rb:dE s.heap Z b e):
  wpAny (model prog w) A (binaryOp op a b) (Op Z s r) E s:=by
 subst ho;cases o with
 |add=>
  cases d<;>first|exact ah he|(cases e<;>first|exact ah he|skip)
  .obtain⟨t,rfl⟩:=ra.int;obtain⟨u,rfl⟩:=rb.int
   obtain rfl:=aI he;exact add_int .int
  .obtain⟨t,rfl,o1,z1⟩:=ra.str;obtain⟨u,rfl,o2,z2⟩:=rb.str
   obtain⟨hz,rfl⟩:=eO he;exact SB.add (λt' k=>.valT (.str _ t' (nq o1 o2) (by show(_++_:Array Nat).size<=_;rw[size_append];exact hz))) (by rw[<- b6];exact hz)
  .obtain⟨l,vs,n,rfl,hl,hn,R⟩:=ra.list;obtain⟨l',zi,n',rfl,cz,uH,R'⟩:=rb.list
   obtain⟨hz,rfl⟩:=eO he;refine P.add_list hl cz ?_ (by rw[Zo,Zo,R.length,R'.length,<- b6];exact hz);rw[List.append_toArray];exact .newL (R.append R') (by rw[ZI,R.length,R'.length];exact hz)
  .obtain⟨l,vs,n,rfl,hl,hn,R,zl⟩:=ra.tuple;obtain⟨l',zi,n',rfl,cz,uH,R',NA⟩:=rb.tuple
   obtain⟨hz,rfl⟩:=eO he
   by_cases hv:vs=[]
   .subst hv;cases R
    exact concat_meets ⟨_,hl,rfl⟩ ⟨_,cz,rfl⟩ noFill_tuple_add seq_tuple_add PySem.F.slot_tuple_add PySem.F.entry_tuple_add (PySem.F.args_tuple_add_2 _ _)
     (AutoSeq1.tuple___add___tuple_tuple_0 l _ n l' zi.toArray n' rfl) ⟨hl,cz,.val (.tuple NA cz uH R')⟩
   .by_cases hw:zi=[]
    .subst hw;cases R'
     rw[ZO];exact concat_meets ⟨_,hl,rfl⟩ ⟨_,cz,rfl⟩ noFill_tuple_add seq_tuple_add PySem.F.slot_tuple_add PySem.F.entry_tuple_add (PySem.F.args_tuple_add_2 _ _)
      (AutoSeq1.tuple___add___tuple_tuple_1 l vs.toArray n l' _ n' (by simpa using hv) rfl) ⟨hl,cz,.val (.tuple zl hl hn R)⟩
    .refine P.add_tuple hl cz (by simpa using hv) (by simpa using hw) ?_ (by rw[Zo,Zo,R.length,R'.length,<- b6];exact hz)
     rw[List.append_toArray];exact .newT (R.append R') (by rw[ZI,R.length,R'.length];exact hz)
 |sub=>
  cases d<;>first|exact ah he|(cases e<;>first|exact ah he|skip)
  obtain⟨t,rfl⟩:=ra.int;obtain⟨u,rfl⟩:=rb.int;obtain rfl:=aI he;exact sub_int .int
 |mul=>
  cases d<;>first|exact ah he|(cases e<;>first|exact ah he|skip)
  .obtain⟨t,rfl⟩:=ra.int;obtain⟨u,rfl⟩:=rb.int
   obtain⟨hz,rfl⟩:=uy he;exact PyProof.Rows.mul_int .int (ru hz)
  .obtain⟨t,rfl,o1,z1⟩:=ra.str;obtain⟨u,rfl⟩:=rb.int
   rename_i x n;obtain⟨hz,rfl⟩:=eO he;have hm:¬n<1->((n.toNat:Nat):Int)=n:=λq=>ZS (by exact(bC [] [n] 1 (.le (.c 0) (.v 0)) [(1,.le (.c 1) (.v 0))] rfl (Int.not_lt.mp q)))
   refine SB.mul ⟨by simp;exact⟨(bC [] [n] 1 (.le (.g (.c 9223372036854775808)) (.v 0)) [(1,.le (.g (.c 1000000000)) (.v 0))] rfl hz.1),(bC [] [n] 1 (.le (.a (.v 0) (.c 1)) (.c 9223372036854775808)) [(1,.le (.v 0) (.c 1000000000))] rfl (hz.2).1)⟩,λq aa=>?_,λq aa=>?_⟩ λt' k=>?_
   .have h2:(x.length:Int)*n<=16777216:=by
     have:((x.cps.size*n.toNat:Nat):Int)<=((16777216:Nat):Int):=ofNat_le.mpr hz.2.2;rw[Int.natCast_mul,hm q]at this;exact this
    have h3:(x.length:Int)<=(2 ^ 63-1) / n:=Int.le_ediv_of_mul_le (by exact(bC [] [n] 1 (.le (.a (.c 0) (.c 1)) (.v 0)) [(1,.le (.c 1) (.v 0))] rfl (Int.not_lt.mp q))) (by omega);exact(λpA=>(jY [x.length] [((2:Int) ^ (63:Nat)-(1:Int)) / n] [(1,.le (.n (.v 0)) (.v 0)),(1,.le (.a (.v 0) (.c 1)) (.n (.v 0)))] rfl h3 pA))
   .unfold Builtin.Str.tooLong
    have h2:x.length*n.toNat<=16777216:=hz.2.2;rw[show sizeLine=16777216 from rfl];simp;exact h2
   .rw[zk]
    exact .valT (.str _ t' (ue n o1) (by show(rep n x.cps.toList).toArray.size<=_;rw[Zo,nA,length_toList];exact hz.2.2))
  .obtain⟨l,vs,n,rfl,hl,hn,R⟩:=ra.list;obtain⟨u,rfl⟩:=rb.int
   rename_i x;obtain⟨hz,rfl⟩:=eO he;have O3:vs.toArray.size*x.toNat<=2 ^ 24:=by rw[Zo,R.length];exact hz.2.2
   refine wpAny_binaryOp_repeat_ref (T:="list") (U:="int") (by decide) ⟨_,hl,rfl⟩ (fun s'=>typeIs_int s' x u) noFill_list_mul PySem.F.fills_int_mul PySem.F.slot_int_rmul repeat_list PySem.F.slot_int_index.lookup
    (call_meets PySem.F.slot_int_rmul (typeIs_int s x u) PySem.F.entry_int_rmul (PySem.F.args_int_rmul_2 _ _) (lm_int_rmul_list_any x u l vs.toArray n none #[])
     ⟨hl,rfl,⟨_,hl,rfl⟩,call_meets PySem.F.slot_list_mul ⟨_,hl,rfl⟩ PySem.F.entry_list_mul (PySem.F.args_list_mul_2 _ _)
      (lm_list_mul_any l vs.toArray n none #[] x u (by simp[Builtin.List.listFitsIndex];exact⟨(bC [] [x] 1 (.le (.g (.c 9223372036854775808)) (.v 0)) [(1,.le (.g (.c 1000000000)) (.v 0))] rfl hz.1),(bC [] [x] 1 (.le (.a (.v 0) (.c 1)) (.c 9223372036854775808)) [(1,.le (.v 0) (.c 1000000000))] rfl (hz.2).1)⟩) (by omega) (by simp[Builtin.List.listTooLong,sizeLine];omega))
      ⟨hl,?_⟩⟩)
   rw[listMul_foldl_if];exact .newL (R.rep _) (by rw[List.length_flatten];simp;rw[mul_comm,R.length];exact hz.2.2)
 |fdiv=>
  cases d<;>first|exact ah he|(cases e<;>first|exact ah he|skip)
  obtain⟨t,rfl⟩:=ra.int;obtain⟨u,rfl⟩:=rb.int;obtain⟨hz,rfl⟩:=eO he;exact floordiv_int hz.1 .int (.inl (wA hz.2))
 |mod=>
  cases d<;>first|exact ah he|(cases e<;>first|exact ah he|skip)
  obtain⟨t,rfl⟩:=ra.int;obtain⟨u,rfl⟩:=rb.int;obtain⟨hz,rfl⟩:=K2 he;exact mod_int hz .int
 |pow=>
  cases d<;>first|exact ah he|(cases e<;>first|exact ah he|skip)
  obtain⟨t,rfl⟩:=ra.int;obtain⟨u,rfl⟩:=rb.int;obtain⟨hz,rfl⟩:=eO he;exact pow_int_small hz.1 (by omega) hz.2.2 .int
theorem zB (x z:Str):(x==z)=(x.cps.toList==z.cps.toList):=by
 obtain⟨⟨l⟩⟩:=x;obtain⟨⟨k⟩⟩:=z
 by_cases q:l=k
 .subst q;simp
 .have h1:((⟨⟨l⟩⟩:Str)==⟨⟨k⟩⟩)=false:=by
   rw[beq_eq_false_iff_ne];intro e;apply q;injection e with e;injection e
  refine Er h1 ?_;symm;simpa using q
theorem i9 {d e:D} {b:Bool} (h:og d e=some b):b=eqv d e/\(noDict d=true/\noDict e=true/\min d.depth e.depth<=64):=by
 have k:∀ {a b:D} {x:Bool},(if lc a b then some (eqv a b) else none)=some x->x=eqv a b/\(noDict a=true/\noDict b=true/\min a.depth b.depth<=64):=λq=>by
  have Q:=eO q;refine Er Q.2 ?_;have q:=Q.1;unfold lc at q;exact⟨rfl,by simpa [Z8,and_assoc] using q⟩
 cases d<;>first
  |exact k h
  |(cases e<;>first
   |exact k h
   |(exact CF h;refine⟨?_,⟨rfl,rfl,by show _<=64;exact Zh (Nat.min_le_left _ _) (by refine Er depth ?_;decide)⟩⟩;rw[eqv];done)
   |(refine Er (aI h).symm ?_;refine⟨?_,⟨rfl,rfl,by show _<=64;exact Zh (Nat.min_le_left _ _) (by rw[depth];decide)⟩⟩;rw[eqv,zB];done))
theorem vx {x:D}:∀ {ds:List D} {b:Bool},iq x ds=some b->b=ds.any (λy=>eqv y x)/\noDicts ds=true/\min (depthAll ds) x.depth<=64:=by
 intro ds b h
 induction ds generalizing b with
 |nil=>refine Er (aI h).symm ?_;exact⟨rfl,rfl,by simp[depthAll]⟩
 |cons d ds ih=>
  have h:(match og d x with
   |none=>none
   |some b=>match iq x ds with
    |none=>none
    |some c=>some (b||c))=some b:=h
  cases hc:og d x with
  |none=>rw[hc]at h;exact ah h
  |some c=>
   rw[hc]at h;cases pS:iq x ds with
   |none=>rw[pS]at h;exact ah h
   |some c'=>
    rw[pS]at h;refine Er (aI h).symm ?_;refine⟨by exact Er any_cons (Er ((i9 hc).1) (Er ((ih pS).1) rfl)),by show(noDict d&&noDicts ds)=true;rw[(i9 hc).2.1,(ih pS).2.1];rfl,?_⟩;simp only[depthAll];exact(Nat.le_total (depth d) (depthAll ds)).elim (λq=>by refine Er (Nat.max_eq_right q) ?_;exact(ih pS).2.2) (λq=>by refine Er (Nat.max_eq_left q) ?_;exact(i9 hc).2.2.2)
theorem Fz {d e:D} (he:og d e=some b') (ra:dE s.heap Z a d) (rb:dE s.heap Z b e) (hu:A.units+64<cLine):wpAny (model prog w) A (compareOp .Eq a b) (Op Z s (.fz (.bool b'))) E s:=by
 have q:=i9 he;refine Er q.1 ?_;obtain⟨as,qa⟩:=ra.reads q.2.1;obtain⟨bs,qb⟩:=rb.reads q.2.2.1;exact SeqAt.compareEq_reads qa qb (ra.canLay q.2.1) (rb.canLay q.2.2.1) (Ln [A.5,min (depth d) (depth e),cLine] (.w (.p 1 (.a .x .y)) .z) [Gl (.p 1 (.p 64 .x)) .z,Gl .y (.c 64)] rfl hu q.2.2.2) .bool
theorem Fx {d e:D} (he:og d e=some b') (ra:dE s.heap Z a d) (rb:dE s.heap Z b e) (hu:A.units+64<cLine):wpAny (model prog w) A (compareOp .NotEq a b) (Op Z s (.fz (.bool (!b')))) E s:=by
 have q:=i9 he;refine Er q.1 ?_;obtain⟨as,qa⟩:=ra.reads q.2.1;obtain⟨bs,qb⟩:=rb.reads q.2.2.1;exact SeqAt.compareNe_reads qa qb (ra.canLay q.2.1) (rb.canLay q.2.2.1) (Ln [A.5,min (depth d) (depth e),cLine] (.w (.p 1 (.a .x .y)) .z) [Gl (.p 1 (.p 64 .x)) .z,Gl .y (.c 64)] rfl hu q.2.2.2) .bool
theorem wG {xs:List D} (h:noDicts xs=true):noDict (.tuple xs)=true:=h
theorem yB {xs:List D} (h:canLay0 (.tuple xs)=true):canLayAll0 xs=true:=by rwa [canLay0]at h
theorem AS {u:Nat} (hu:u+66<cLine) (h:m<=64):u+1+m<cLine:=by exact(Ln [u,m,cLine] (.w (.p 1 (.a (.p 1 .x) .y)) .z) [Gl (.p 1 (.p 66 .x)) .z,Gl .y (.c 64)] rfl hu h)
theorem Fy {d e:D} (he:Ii d e=some b') (ra:dE s.heap Z a d) (rb:dE s.heap Z b e) (hu:A.units+66<cLine):wpAny (model prog w) A (compareOp .In a b) (Op Z s (.fz (.bool b'))) E s:=by
 cases e with
 |tuple xs=>
  refine ag λG g=>?_
  obtain⟨hd,h⟩:noDict d=true/\iq d xs=some b':=by
   have he:(if noDict d=true then iq d xs else none)=some b':=he
   by_cases q:noDict d=true
   .rw[Y0 q]at he;exact⟨q,he⟩
   .rw[Y1 q]at he;exact ah he
  obtain⟨rfl,h1,h2⟩:=vx h;obtain⟨as,qa⟩:=ra.reads hd;obtain⟨bs,qb⟩:=rb.reads h1;exact g (SeqAt.in_tuple_reads qb qa (yB (rb.canLay (wG h1))) (ra.canLay hd) (AS hu h2) .bool)
 |_=>exact ah he
set_option tactic.hygienic true in
theorem Bt {d e:D} (he:HC d e=some b') (ra:dE s.heap Z a d) (rb:dE s.heap Z b e) (hu:A.units<cLine):wpAny (model prog w) A (compareOp .NotEq a b) (Op Z s (.fz (.bool b'))) E s:=by
 refine ag λG g=>?_
 cases d<;>first|exact ah he|(cases e<;>first|exact ah he|skip)
 rename_i xs ys;cases ys with
 |cons _ _=>refine g ?_;exact ah he
 |nil=>
  refine g ?_;refine Er (aI he).symm ?_;obtain⟨l,vs,n,rfl,hl,hn,R⟩:=ra.list;obtain⟨l',zi,n',rfl,cz,uH,R'⟩:=rb.list;cases R';cases xs with
  |nil=>cases R;exact SeqAt.RcNeAt.lists (e:=λaa=>true) ⟨_,hl,rfl,_,rfl⟩ ⟨_,cz,rfl,_,rfl⟩ rfl hu (λj h1=>absurd h1 (Nat.not_lt_zero _)) _ _ _ _ .bool
  |cons x xs=>cases R;exact SeqAt.RcNeAt.lists_lengths ⟨_,hl,rfl,_,rfl⟩ ⟨_,cz,rfl,_,rfl⟩ rfl hu _ _ _ _ .bool
noncomputable def eM:Cm->CmpOp
 |.eq=>.Eq|.ne=>.NotEq|.lt=>.Lt|.le=>.LtE|.gt=>.Gt|.ge=>.GtE|.isin=>.In|.nel=>.NotEq
theorem jy {o:Cm} {d e:D} (he:au o d e=some b') (ra:dE s.heap Z a d) (rb:dE s.heap Z b e) (hu:A.units+66<cLine):
  wpAny (model prog w) A (compareOp (eM o) a b) (Op Z s (.fz (.bool b'))) E s:=by
 cases o with
 |eq=>exact Fz he ra rb (bC [A.5,cLine] [] 1 (.nle (.a (.a (.v 0) (.c 64)) (.c 1)) (.v 1)) [(1,.nle (.a (.a (.v 0) (.c 66)) (.c 1)) (.v 1))] rfl hu)
 |ne=>
  obtain⟨c,hc,rfl⟩:=Z9 he;exact Fx hc ra rb (bC [A.5,cLine] [] 1 (.nle (.a (.a (.v 0) (.c 64)) (.c 1)) (.v 1)) [(1,.nle (.a (.a (.v 0) (.c 66)) (.c 1)) (.v 1))] rfl hu)
 |lt=>
  cases d<;>first|exact ah he|(cases e<;>first|exact ah he|skip)
  obtain rfl:=aI he;obtain⟨t,rfl⟩:=ra.int;obtain⟨u,rfl⟩:=rb.int;exact lt_int .bool
 |le=>
  cases d<;>first|exact ah he|(cases e<;>first|exact ah he|skip)
  obtain rfl:=aI he;obtain⟨t,rfl⟩:=ra.int;obtain⟨u,rfl⟩:=rb.int;exact PyProof.Rows.le_int .bool
 |gt=>
  cases e<;>first|exact ah he|(cases d<;>first|exact ah he|skip)
  obtain rfl:=aI he;obtain⟨t,rfl⟩:=ra.int;obtain⟨u,rfl⟩:=rb.int;exact gt_int .bool
 |ge=>
  cases e<;>first|exact ah he|(cases d<;>first|exact ah he|skip)
  obtain rfl:=aI he;obtain⟨t,rfl⟩:=ra.int;obtain⟨u,rfl⟩:=rb.int;exact PyProof.Rows.ge_int .bool
 |isin=>exact Fy he ra rb hu
 |nel=>exact Bt he ra rb (Zf (Zl _ _) hu)
theorem iS {d:D} (ra:dE s.heap Z a d) {Q:Bool->Shared->Prop} (h:∀tk,Q (tD d) {s with toks:=tk}):wpAny (model prog w) A (truthy a) Q E s:=by
 cases d with
 |none=>exact Er ra.none (λaa aA bF=>h s.toks)
 |bool b=>exact Er ra.bool (wpAny_truthy_bool (h s.toks))
 |int i=>obtain⟨t,rfl⟩:=ra.int;exact PyProof.Rows.truthy_int (h s.toks)
 |str x=>
  refine ag λG g=>?_
  obtain⟨t,rfl,_,hz⟩:=ra.str;refine g ?_;refine P.truthy_str (λwT=>(Lf [x.length] [Gl .x (.c 16777216),Gi (.c 9223372036854775808) (.n .x)] rfl hz wT)) ?_;have e:((x.length:Int) != 0)=tD (.str x):=by
   show _=(x.cps.size != 0)
   show((x.cps.size:Int) != 0)=_
   cases x.cps.size with
   |zero=>rfl
   |succ n=>rfl
  exact Er e (h _)
 |list ds=>
  obtain⟨l,vs,n,rfl,hl,hn,R⟩:=ra.list;refine wpAny_truthy_list hl.isList (by refine Er Zo ?_;simp only[Sz]at hn;exact(Ln [vs.length] (.i (.p 1 (.n .x)) (.c 9223372036854775808)) [Gl .x (.c 16777216)] rfl hn)) ?_;have e:(!vs.toArray.isEmpty)=tD (.list ds):=by
   cases R<;>rfl
  exact Er e (h _)
 |tuple ds=>
  obtain⟨l,vs,n,rfl,hl,hn,R,_⟩:=ra.tuple;refine truthy_tuple ⟨_,hl,rfl,_,rfl⟩ (by refine Er Zo ?_;simp only[Sz]at hn;exact(Ln [vs.length] (.i (.p 1 (.n .x)) (.c 9223372036854775808)) [Gl .x (.c 16777216)] rfl hn)) ?_;have e:(!vs.toArray.isEmpty)=tD (.tuple ds):=by
   cases R<;>rfl
  exact Er e (h _)
 |dict kvs=>
  obtain⟨l,kv,rfl,hd,hn,R⟩:=ra.dict;refine wpAny_truthy_dict (knd:=strKind prog w) hd.1 hd.2 (by simp only[Sz]at hn;exact(Ln [kv.length] (.i (.p 1 (.n .x)) (.c 9223372036854775808)) [Gl .x (.c 16777216)] rfl hn)) ?_;have e:(!kv.isEmpty)=tD (.dict kvs):=by cases R<;>rfl
  exact Er e (h _)
theorem Eb {d:D} (ra:dE s.heap Z a d):wpAny (model prog w) A (unaryOp .Not a) (Op Z s (.fz (.bool (!tD d)))) E s:=
 not_of (iS ra λtk=>.valT (.bool _))
theorem Ec {d e:D} (he:wF d=some e) (ra:dE s.heap Z a d):wpAny (model prog w) A (unaryOp .USub a) (Op Z s (.fz e)) E s:=by
 unfold wF at he;refine ag λG g=>?_
 split at he<;>cases he
 obtain⟨t,rfl⟩:=ra.int;exact g (PyProof.Rows.neg_int .int)
set_option tactic.hygienic true in
theorem seqIndex_of {xs:List α} {i:Int} {x:α} (h:bM xs i=some x):∃k,seqIndex? i xs.length=some k/\xs[k]? = some x:=by
 unfold bM at h;unfold seqIndex?
 split at h
 .rename_i q
  refine⟨i.toNat,?_,h⟩;simp only[(Y1 (by exact(λEu=>(jY [] [i] [Gi (.c 0) .x,Gi (.p 1 .x) (.c 0)] rfl q Eu))):(if i<0 then i+(xs.length:Int) else i)=i)];exact Er (Y0 (by simp;exact⟨q,(bC [xs.length,i.toNat] [i] 1 (.i (.p 1 .x) (.n .x)) [Gl (.p 1 .y) .x,Gk (.n .y) .x] rfl ((List.getElem?_eq_some_iff.mp h).1) (ZS (a:=i) q))⟩)) rfl
 .exact ah h
set_option tactic.hygienic true in
theorem jE {xs:List α} {i:Int} {x:α} (h:bM xs i=some x) (hz:xs.length<=Sz): -(2 ^ 63:Int)<=i/\i<2 ^ 63:=by
 unfold bM at h;simp only[Sz]at hz
 split at h
 .rename_i q
  exact⟨Int.le_trans (by decide) q,Int.lt_trans ((Int.toNat_lt q).mp (Ze (List.getElem?_eq_some_iff.mp h).1 hz)) (by decide)⟩
 .exact ah h
theorem rf {d e r:D} (he:nX d e=some r) (ra:dE s.heap Z a d) (rb:dE s.heap Z b e):
  ∃T id,s.TypeIs a T∧typeLookup (.type T) "__getitem__" = pure (some (.builtin id))∧wpAny (model prog w) A (getItem a b) (Op Z s (.fz r)) E s:=by
 cases d with
 |list ds=>
  cases e with
  |int i=>
   have he:bM ds i=some r:=he;obtain⟨l,vs,n,rfl,hl,hn,R⟩:=ra.list;obtain⟨t,rfl⟩:=rb.int;refine⟨_,_,⟨_,hl,rfl⟩,slot_list_getitem.lookup,?_⟩;have hb:=jE he (by refine Er R.length.symm ?_;exact hn);unfold bM at he
   split at he
   .exact aX (R.get he) λv z=>(wpAny_getItem_list hl.isList (by assumption) hb.2 (by simpa using z.1) (.val z.2))
   .exact ah he
  |_=>exact ah he
 |tuple ds=>
  cases e with
  |int i=>
   obtain⟨l,vs,n,rfl,hl,hn,R,zl⟩:=ra.tuple;obtain⟨t,rfl⟩:=rb.int;refine⟨_,_,⟨_,hl,rfl⟩,slot_tuple_getitem.lookup,?_⟩;have hb:=jE he (by refine Er R.length.symm ?_;exact hn);exact aX (seqIndex_of he) λk j=>(aX (R.get j.2) λv Q=>(P.getItem_tuple hl hb.1 hb.2 (by refine Er Zo (Er R.length ?_);exact j.1) (by simpa using Q.1) (.val Q.2)))
  |_=>exact ah he
 |str x=>
  cases e with
  |int i=>
   refine aX (Z9 he) λc J=>?_;obtain rfl:=J.2
   obtain⟨t,rfl,ho,hz⟩:=ra.str;obtain⟨u,rfl⟩:=rb.int;have hb:=jE J.1 (by refine Er length_toList ?_;exact hz);refine aX (seqIndex_of J.1) λk U=>?_;have hk:=U.1;have hx:=U.2
   have Nf:Txt.charAt x i=some c:=by
    unfold Txt.charAt;refine Er (show seqIndex? i x.length=some k from by rw[length_toList]at hk;exact hk) ?_;show x.cps[k]? = some c
    exact Er (Array.getElem?_toList).symm hx
   refine⟨_,_,rfl,slot_str_getitem.lookup,SB.getItem (by show(!(decide (i < -(2 ^ 63:Int))||decide (i>=2 ^ 63)))=true;simp;exact⟨(hb.1),(hb.2)⟩) (by refine Er Nf ?_;rfl) ?_⟩;have e:Txt.item x i=⟨#[c]⟩:=by unfold Txt.item;refine Er Nf ?_;rfl
   refine Er e ?_;refine .valT (.str _ _ ?_ (by show 1<=16777216;exact(L0 [] (.c 1) (.c 16777216) rfl)));unfold PyData.strOk at ho ⊢;rw[<- all_toList,ZQ]at ho
   simpa using ho c (Zs hx)
  |_=>exact ah he
 |dict kvs=>
  cases e with
  |str k=>
   have he:bS kvs k=some r:=he;obtain⟨l,kv,rfl,hd,hn,R⟩:=ra.dict;obtain⟨t,rfl,_,_⟩:=rb.str;refine ag λG g1=>?_
   rcases R.get (k:=k) with⟨h1,h2⟩|⟨v,d',h1,h2,rv⟩
   .refine g1 ?_
    have he:=h1▸he;exact ah he
   .refine g1 ?_
    rw[h1]at he;exact Er (aI he).symm (⟨_,_,hd.2.typeIs,slot_dict_getitem.lookup,wpAny_getItem_of (knd:=strKind prog w) (strKind_is _ _ k t) hd.2.mapOf h2 (.valT rv)⟩)
  |_=>exact ah he
 |_=>exact ah he
theorem Op.after {r:Rv} {v:Value} {h₁:Heap} (k:∀b o,s.heap.get? b=some o->h₁.get? b=some o) (p:Op Z {s with heap:=h₁} r v s'):Op Z s r v s':=by
 obtain⟨h',tk,rfl,k',q⟩:=p;refine⟨h',tk,rfl,λb o e=>k' b o (k b o e),?_⟩;have old:∀a,h₁.get? a=none->s.heap.get? a=none:=λa e=>by
  cases q:s.heap.get? a with
  |none=>rfl
  |some o=>have e:=(k a o q)▸e;cases e
 cases q with
 |old r=>exact .old r
 |new e e' r=>exact .new (old _ e) e' r
 |own e r=>exact .own (old _ e) r
theorem wu {d l h:D} {r:Rv} {vl vu:Value} (he:vS d l h=some r) (ra:dE s.heap Z a d) (rl:dE s.heap Z vl l) (rh:dE s.heap Z vu h):
  ∃T id,({s with heap:=s.heap.push {cls:=.type "slice",data:=.fields #[vl,vu,.none]}} :Shared).TypeIs a T∧typeLookup (.type T) "__getitem__" = pure (some (.builtin id))∧
   wpAny (model prog w) A (getItem a (.ref s.heap.objs.size)) (Op Z s r) E {s with heap:=s.heap.push {cls:=.type "slice",data:=.fields #[vl,vu,.none]}}:=by
 obtain⟨x,xs,rfl,rfl,rfl,rfl⟩:∃x xs,d = .tuple (x::xs)/\l = .int 1/\h = .none/\ .fz (.tuple xs)=r:=by
  cases d with
  |tuple ds=>
   cases ds with
   |nil=>exact ah he
   |cons x xs=>
    cases l with
    |int i=>
     cases h with
     |none=>obtain⟨rfl,rfl⟩:=eO he;exact⟨x,xs,rfl,rfl,rfl,rfl⟩
     |_=>exact ah he
    |_=>exact ah he
  |_=>exact ah he
 obtain⟨l,vs,n,rfl,hl,hn,R,zl⟩:=ra.tuple;obtain⟨t,rfl⟩:=rl.int;refine Er rh.none ?_;refine ag λG g=>?_
 cases R with
 |@cons v vs _ _ rv R=>
  refine g ?_;refine ⟨_,_,⟨_,pK _ _ _ hl,rfl⟩,slot_tuple_getitem.lookup,PyProof.Rows.getItem_tuple_from (s:= {s with heap:=s.heap.push _}) (a:=1) ⟨_,IsT.push hl _,rfl,_,rfl⟩ (Heap.IsSliceOf.new ..) (Zi _) (by refine Er Zo ?_; exact Nat.succ_le_succ (Zc _)) ?_ (by refine Er Zo (Er b6.symm ?_); exact hn)⟩;exact .after (h₁:=s.heap.push {cls:=.type "slice",data:=.fields #[.int 1 t,.none,.none]}) (pK _) (.newT (R.mono (fun a o aa e=>pK _ a o e) fun aa z=>z) (le_of_succ_le hn))
end
noncomputable def cE:Ty->String
 | .tup=>"tuple" | .int=>"int" | .bool=>"bool" | .str=>"str"
section
variable {A:Around} {E:Value->Shared->Prop} {s:Shared} {Z:Addr->Prop} {a b:Value}
theorem Ed {d:D} {n:Nat} (he:Aw d = some n) (ra:dE s.heap Z a d) :wpAny (model prog w) A (call (.builtin "len") [a]) (Op Z s (.fz (.int n))) E s:=by
 cases d<;>first|exact ah he|refine Er (aI he).symm ?_
 .obtain⟨l,vs,k,rfl,hl,hn,R⟩:=ra.list
  simp only[Sz]at hn;refine Calls.call_len_list hl.isList (by refine Er Zo ?_;exact(Ln [vs.length] (.i (.p 1 (.n .x)) (.c 9223372036854775808)) [Gl .x (.c 16777216)] rfl hn)) ?_;exact Er Zo (Er R.length .int)
 .obtain⟨l,vs,k,rfl,hl,hn,R,_⟩:=ra.tuple
  simp only[Sz]at hn;refine P.len_tuple hl (by refine Er Zo ?_;exact(λHM=>(Lf [vs.length] [Gl .x (.c 16777216),Gi (.c 9223372036854775808) (.n .x)] rfl hn HM))) ?_;exact Er Zo (Er R.length .int)
theorem Ee {d:D} (t:Ty) (ra:dE s.heap Z a d) :wpAny (model prog w) A (call (.builtin "isinstance") [a,.type (cE t)]) (Op Z s (.fz (.bool (kW t d)))) E s:=by
 cases d with
 |none=>obtain rfl:=ra.none;cases t<;>first|exact IsiPair.NoneType_tuple (.valT (.bool _))|exact IsiPair.NoneType_int (.valT (.bool _))|exact IsiPair.NoneType_bool (.valT (.bool _))|exact IsiPair.NoneType_str (.valT (.bool _))|exact IsiPair.NoneType_list (.valT (.bool _))
 |bool b=>obtain rfl:=ra.bool;cases t<;>first|exact IsiPair.bool_tuple (.valT (.bool _))|exact IsiPair.bool_int .bool|exact IsiPair.bool_bool .bool|exact IsiPair.bool_str (.valT (.bool _))|exact IsiPair.bool_list (.valT (.bool _))
 |int i=>obtain⟨u,rfl⟩:=ra.int;cases t<;>first|exact IsiPair.int_tuple (.valT (.bool _))|exact IsiPair.int_int .bool|exact IsiPair.int_bool (.valT (.bool _))|exact IsiPair.int_str (.valT (.bool _))|exact IsiPair.int_list (.valT (.bool _))
 |str x=>obtain⟨u,rfl,_⟩:=ra.str;cases t<;>first|exact IsiPair.str_tuple (.valT (.bool _))|exact IsiPair.str_int (.valT (.bool _))|exact IsiPair.str_bool (.valT (.bool _))|exact IsiPair.str_str .bool|exact IsiPair.str_list (.valT (.bool _))
 |list ds=>
  obtain⟨l,vs,k,rfl,hl,hn,R⟩:=ra.list;cases t<;>first|exact IsiPair.list_tuple hl rfl (.valT (.bool _))|exact IsiPair.list_int hl rfl (.valT (.bool _))|exact IsiPair.list_bool hl rfl (.valT (.bool _))|exact IsiPair.list_str hl rfl (.valT (.bool _))|exact IsiPair.list_list hl rfl .bool
 |tuple ds=>
  obtain⟨l,vs,k,rfl,hl,hn,R,_⟩:=ra.tuple;cases t<;>first|exact IsiPair.tuple_tuple hl rfl .bool|exact IsiPair.tuple_int hl rfl (.valT (.bool _))|exact IsiPair.tuple_bool hl rfl (.valT (.bool _))|exact IsiPair.tuple_str hl rfl (.valT (.bool _))|exact IsiPair.tuple_list hl rfl (.valT (.bool _))
 |dict kvs=>
  obtain⟨l,kv,rfl,hd,hn,R⟩:=ra.dict;obtain⟨o,_,_,ho,hc,_⟩:=hd.2;cases t<;>first|exact IsiPair.dict_tuple ho hc.1 (.valT (.bool _))|exact IsiPair.dict_int ho hc.1 (.valT (.bool _))|exact IsiPair.dict_bool ho hc.1 (.valT (.bool _))|exact IsiPair.dict_str ho hc.1 (.valT (.bool _))|exact IsiPair.dict_list ho hc.1 (.valT (.bool _))
theorem Eh {i:Int} (ra:dE s.heap Z a (.int i)) :wpAny (model prog w) A (call (.builtin "abs") [a]) (Op Z s (.fz (.int i.natAbs))) E s:=by
 obtain⟨u,rfl⟩:=ra.int;refine call_abs_int λu tk=>?_
 have e:(if i<0 then -i else i)=((i.natAbs:Nat):Int):=by split<;>(first|exact(ZX (bC [i.natAbs] [i] 1 (.i (.g .x) (.n .x)) [Gk (.n .x) (.g .x)] rfl (Int.ofNat_natAbs_of_nonpos (a:=i) (Li [i] (.i .x (.c 0)) [Gi (.p 1 .x) (.c 0)] rfl ‹i<(0:Int)›))) (bC [i.natAbs] [i] 1 (.i (.n .x) (.g .x)) [Gj (.n .x) (.g .x)] rfl (Int.ofNat_natAbs_of_nonpos (a:=i) (Li [i] (.i .x (.c 0)) [Gi (.p 1 .x) (.c 0)] rfl ‹i<(0:Int)›))))|exact(ZX (bC [i.natAbs] [i] 1 (.i .x (.n .x)) [Gk (.n .x) .x] rfl (ZW (a:=i) (Int.not_lt.mp ‹¬i<(0:Int)›))) (bC [i.natAbs] [i] 1 (.i (.n .x) .x) [Gj (.n .x) .x] rfl (ZW (a:=i) (Int.not_lt.mp ‹¬i<(0:Int)›)))))
 exact Er e .int
theorem Ae {b':Bool} (ra:dE s.heap Z a (.bool b')) :wpAny (model prog w) A (call (.type "int") [a]) (Op Z s (.fz (.int (if b' then 1 else 0)))) E s:=by
 exact Er ra.bool (call_int_bool .int)
theorem uv {ds:List D} (ra:dE s.heap Z a (.list ds)) :wpAny (model prog w) A (call (.type "tuple") [a]) (Op Z s (.fz (.tuple ds))) E s:=by
 obtain⟨l,vs,k,rfl,hl,hn,R⟩:=ra.list;refine call_tuple_list hl.isList (λh' hk=>?_) (by refine Er Zo (Er b6.symm ?_);exact hn);exact .after (h₁:=h') hk (.newT (R.mono (λa o aa e=>hk a o e) λaa z=>z) hn)
theorem wv {ds:List D} (ra:dE s.heap Z a (.tuple ds)) :wpAny (model prog w) A (call (.type "list") [a]) (Op Z s (.own (.list ds))) E s:=by
 obtain⟨l,vs,k,rfl,hl,hn,R,_⟩:=ra.tuple;exact call_list_seq l (.inr rfl) hl rfl rfl (λh' c' hk hD=>⟨h',s.toks,rfl,hk,.own (A4 _) (.list hD hn (R.mono (λa o aa e=>hk a o e) λaa z=>z))⟩) (by refine Er Zo (Er b6.symm ?_);exact hn)
theorem oV:∀ {ds:List D} {k:Int} {r:D},qR k ds=some r-> ∃f:Nat->Int,(∀i d,ds[i]? = some d->d=int (f i))/\r=int (k+preSum f ds.length)
 |[],k,r,h=>by exact Er (aI h).symm (⟨λaa=>0,λi d e=>by simp at e,by simp[preSum]⟩)
 |.int b::ds,k,r,h=>by
  obtain⟨f,h1,rfl⟩:=oV (ds:=ds) h;refine⟨λi=>match i with|0=>b|i+1=>f i,λi d e=>?_,?_⟩
  .cases i with
   |zero=>simp at e;exact e.symm
   |succ i=>exact h1 i d e
  .have:∀n,preSum (λi=>match i with|0=>b|i+1=>f i) (n+1)=b+preSum f n:=by
    intro n
    induction n with
    |zero=>simp[preSum]
    |succ n ih=>rw[preSum,ih,preSum];simp only;exact(ZX (Li [b,preSum f n,f n] (.i (.a (.a .x .y) .z) (.a .x (.a .y .z))) [] rfl) (Li [b,preSum f n,f n] (.i (.a .x (.a .y .z)) (.a (.a .x .y) .z)) [] rfl))
   refine Er ZH ?_;rw[this];congr 1;exact(ZX (Li [k,b,preSum f ds.length] (.i (.a (.a .x .y) .z) (.a .x (.a .y .z))) [] rfl) (Li [k,b,preSum f ds.length] (.i (.a .x (.a .y .z)) (.a (.a .x .y) .z)) [] rfl))
 |.none::_,_,_,h=>by exact ah h
 |.bool _::_,_,_,h=>by exact ah h
 |.str _::_,_,_,h=>by exact ah h
 |.list _::_,_,_,h=>by exact ah h
 |.tuple _::_,_,_,h=>by exact ah h
 |.dict _::_,_,_,h=>by exact ah h
theorem Ea {ds:List D} {r:D} (hh:A.handled = none) (he:qR 0 ds = some r) (ra:dE s.heap Z a (.list ds)) :wpAny (model prog w) A (call (.builtin "sum") [a]) (Op Z s (.fz r)) E s:=by
 obtain⟨l,vs,k,rfl,hl,hn,R⟩:=ra.list;obtain⟨f,hf,rfl⟩:=oV he;refine call_sum_walkG (wpAny_pyIter_list hl.isList ?_);refine⟨_,_,_,_,_,_,f,rfl,Walks.list (A:=A.in1) hh s.heap.objs.size l (ne_of_lt (ZZ hl)) vs.toArray,⟨⟨_,Z1 _ rfl,rfl,rfl⟩,(IsL.push hl _).isList⟩,λb hb=>?_,λi v hv=>?_,λh' tk t' hk=>?_⟩
 .rw[Heap.size_push]
  simp at hb
  rcases hb with rfl|rfl
  .exact lt_succ_self _
  .exact Nat.lt_succ_of_lt (ZZ hl)
 .have EL:vs[i]? = some v:=by simpa using hv
  refine aX (R.getV EL) λd Q=>?_
  have:=hf i d Q.1;subst this;obtain⟨t,e⟩:=(b5.dat Q.2).int;exact⟨t,e⟩
 .have e:(0:Int)+preSum f ds.length=preSum f vs.toArray.size:=by exact Er Zo (Er R.length (ZX (Li [preSum f ds.length] (.i (.a (.c 0) .x) .x) [] rfl) (Li [preSum f ds.length] (.i .x (.a (.c 0) .x)) [] rfl)))
  refine Er e ?_;refine⟨h',tk,rfl,λb o q=>hk b o (λm=>?_) (pK _ b o q),.old (.int _ _)⟩;simp at m;exact absurd (ZZ q) (by refine Er m ?_;exact Zg _)
theorem mQ:∀ {xs:List D} {bs:List Bool},fY xs=some bs->xs=bs.map PyData.bool
 |[],_,h=>by obtain rfl:=aI h;rfl
 |.bool b::xs,bs,h=>by
  obtain⟨r,hr,rfl⟩:=Z9 h;refine Er (mQ hr) ?_;rfl
 |.int _::_,_,h=>by exact ah h
 |.none::_,_,h=>by exact ah h
 |.str _::_,_,h=>by exact ah h
 |.list _::_,_,h=>by exact ah h
 |.tuple _::_,_,h=>by exact ah h
 |.dict _::_,_,h=>by exact ah h
theorem lu (bs:List Bool):noDicts (bs.map PyData.bool)=true/\(bs.map PyData.bool).all PySem.Spec.Shape.bool.has=true:=by
 induction bs with
 |nil=>exact⟨rfl,rfl⟩
 |cons b bs ih=>exact⟨ih.1,by refine Er Zz (Er all_cons (Er ih.2 ?_));rfl⟩
theorem qi (b:Bool):∀bs:List Bool,PySem.Spec.countIn (.bool b) (bs.map PyData.bool)=((bs.count b:Nat):Int):=by
 intro bs
 induction bs with
 |nil=>exact rfl
 |cons x bs ih=>
  refine Er Zz (Er List.count_cons ?_);show(if PySem.Spec.same (.bool x) (.bool b) then 1 else 0)+PySem.Spec.countIn (.bool b) (bs.map PyData.bool)=_
  refine Er ih (Er (show PySem.Spec.same (.bool x) (.bool b)=(x==b) from rfl) ?_);cases x<;>cases b<;>simp<;>(first|exact(Le [List.count false bs] (.j (.a (.c 1) (.n .x)) (.p 1 (.n .x))) [] rfl)|exact(Le [List.count true bs] (.j (.a (.c 1) (.n .x)) (.p 1 (.n .x))) [] rfl))
theorem ww {xs:List D} {bs:List Bool} {k:Bool} (he:fY xs=some bs) (ra:dE s.heap Z a (.list xs)) (rb:dE s.heap Z b (.bool k)):
  wpAny (model prog w) A (call (.builtin "list.count") [a,b]) (Op Z s (.fz (.int (bs.count k:Nat)))) E s:=by
 obtain rfl:=mQ he;have Q:=ra.reads (lu bs).1;obtain⟨l,vs,n,rfl,hl,hn,R⟩:=ra.list;refine Er rb.bool ?_;obtain⟨Pe,q'⟩:=R.reads (lu bs).1;refine count_list_bools hl.isList q' (lu bs).2 ?_;rw[qi];exact .int
end
end Mv
namespace Mv
open PySem PyProof.Rows
section
variable {prog:Program} {w:World} {A:Around} {E:Value->Shared->Prop} {s:Shared}
theorem sI {α:Type} {Q:α→Shared→Prop} (hh:A.handled = none) (hE:∀h' e,(∀b o,s.heap.get? b = some o→h'.get? b = some o)→(∃o,h'.get? e = some o∧o.cls = .type "StopIteration")→E (.ref e) {s with heap:=h'}) :wpAny (model prog w) A (Builtin.SmallTypes.stopIteration:Sem α) Q E s:=by
 show wpAny _ _ (newExc (.type "StopIteration") [] >>= _) _ _ _
 refine YY ?_;simp only[newExc,newTuple];refine YY (YV ?_ (by size_fits));refine YY (m:=firstArgMember _ _) (wpAny_of_eq (a:=Value.none) (by first|rfl|(simp only[firstArgMember];rfl)) ?_);refine YV ?_ (by size_fits);simp only[raiseNew];refine YY (wpAny_handled ?_);rw[hh];exact YY (YU (wpAny_throw (hE _ _ (λb o e=>Z2 _ (Z2 _ e)) ⟨_,Z1 _ rfl,rfl⟩)))
theorem rm {it t:Addr} {x:Value} {Q:Value->Shared->Prop} (de:s.heap.IsTupleIter it t i) (ht:s.heap.IsTuple t items) (hx:items[i]? = some x)
  (hQ:∀h',h'.IsTupleIter it t (i+1)->Heap.SameBut it s.heap h'->Q x {s with heap:=h'}):wpAny (model prog w) A (Builtin.SmallTypes.nextOf (.ref it)) Q E s:=by
 obtain ⟨o,q⟩:=id de;obtain ⟨ol,Ll,_,nl,Cs⟩:=ht;unfold Builtin.SmallTypes.nextOf;refine YY (wpAny_callSpecial?_slot (name:=Str.ofString "__next__") de.typeIs F.slot_tuple_iterator_next (wpAny_call_entry F.slot_tuple_iterator_next de.typeIs F.entry_tuple_iterator_next ?_ (F.args_tuple_iterator_next_1 _)));show wpAny _ _ (field (.ref it) 0 >>= _) _ _ s
 refine YY (YX q.1 q.2.2 (x:=.ref t) rfl ?_);refine wpAny_ite_false rfl ?_;refine YY (YX q.1 q.2.2 (x:=.int i 0) rfl ?_);refine YY (wpAny_seqItems Ll Cs ?_);simp only[ZT,hx];refine YY (wpAny_setField q.1 q.2.2 (by simp) (YU ⟨x,rfl,YU (hQ _ ?_ (Heap.SameBut.update ..))⟩));exact⟨_,Heap.get?_update_self _ q.1 (Obj.isFreed_of_fields (Zb q.2.2 _)),(Obj.cls_mapFields ..).trans q.2.1,by rw[Zb q.2.2];simp[rawInt]⟩
theorem px {it t:Addr} {Q:Value->Shared->Prop} (hh:A.handled=none) (de:s.heap.IsTupleIter it t i) (ht:s.heap.IsTuple t items) (hx:items[i]? = none)
  (hE:∀h' e,Heap.ExtBut it s.heap h'→(∃o,h'.get? e = some o∧o.cls = .type "StopIteration")→E (.ref e) {s with heap:=h'}) :wpAny (model prog w) A (Builtin.SmallTypes.nextOf (.ref it)) Q E s:=by
 obtain ⟨o,ho,hc,hd⟩:=id de;obtain ⟨ol,Ll,_,nl,Cs⟩:=ht;unfold Builtin.SmallTypes.nextOf;refine YY (wpAny_callSpecial?_slot (name:=Str.ofString "__next__") de.typeIs F.slot_tuple_iterator_next (wpAny_call_entry F.slot_tuple_iterator_next de.typeIs F.entry_tuple_iterator_next ?_ (F.args_tuple_iterator_next_1 _)));show wpAny _ _ (field (.ref it) 0 >>= _) _ _ s
 refine YY (YX ho hd (x:=.ref t) rfl ?_);show wpAny _ _ (if (Value.ref t==Value.none)=true then _ else _) _ _ s
 refine wpAny_ite_false rfl ?_;show wpAny _ _ (field (.ref it) 1 >>= _) _ _ s
 refine YY (YX ho hd (x:=.int i 0) rfl ?_);show wpAny _ _ (seqItems? (.ref t) >>= _) _ _ s
 refine YY (wpAny_seqItems Ll Cs ?_);simp only[ZT,hx];exact YY (wpAny_rule (YY (wpAny_setField ho hd (by simp) (sI hh λh' e k x=>hE h' e (λb o n q=>k b o ((Heap.SameBut.update ..).extBut b o n q)) x))))
def vB (h:Heap) (it l:Addr) (xs:Array Value) (k:Nat):Bool->Prop
 |false=>h.IsTupleIter it l k/\h.IsTuple l xs
 |true=>h.IsListIter it l k/\h.IsList l xs
variable {h h':Heap} {it l z TI TO i1 i2 l1 l2:Addr} {xs ys:Array Value} {k:Nat} {v x y:Value} {b:Bool}
theorem vB.at (x:vB h it l xs k b) (q1:∀o,h.get? it=some o->h'.get? it=some o) (q2:∀o,h.get? l=some o->h'.get? l=some o):vB h' it l xs k b:=by
 cases b with
 |false=>obtain⟨⟨o,e,r⟩,o',e',r'⟩:=x;exact⟨⟨o,q1 o e,r⟩,o',q2 o' e',r'⟩
 |true=>obtain⟨⟨o,e,r⟩,o',e',r'⟩:=x;exact⟨⟨o,q1 o e,r⟩,o',q2 o' e',r'⟩
theorem Aj {Q:Value->Shared->Prop} (x:vB s.heap it l xs k b) (df:l≠it) (hx:xs[k]? = some v)
  (hQ:∀h',vB h' it l xs (k+1) b->Heap.SameBut it s.heap h'->Q v {s with heap:=h'}):wpAny (model prog w) A (Builtin.SmallTypes.nextOf (.ref it)) Q E s:=by
 cases b with
 |false=>exact rm x.1 x.2 hx λh' a sb=>hQ h' ⟨a,x.2.extBut sb.extBut df⟩ sb
 |true=>exact wpAny_nextOf_list_item x.1 x.2 hx λh' a sb=>hQ h' ⟨a,x.2.extBut sb.extBut df⟩ sb
theorem wB {Q:Value->Shared->Prop} (hh:A.handled=none) (x:vB s.heap it l xs k b) (hx:xs[k]? = none)
  (hE:∀h' e,Heap.ExtBut it s.heap h'→(∃o,h'.get? e = some o∧o.cls = .type "StopIteration")→E (.ref e) {s with heap:=h'}) :wpAny (model prog w) A (Builtin.SmallTypes.nextOf (.ref it)) Q E s:=by
 cases b with
 |false=>exact px hh x.1 x.2 hx hE
 |true=>exact wpAny_nextOf_list_end hh x.1 x.2 hx hE
noncomputable abbrev zO (f0 f1:Value) (TI TO:Addr) :Obj:= {cls:=.type "zip",dict:=none,data:=.fields #[f0,f1,.bool false,.ref TI,.ref TO],slots:=#[]}
inductive ZF (h:Heap):Value->Value->Prop
 |new:ZF h .none (.bool false)
 |out {T:Addr} {o:Obj} {c:Bool}:h.get? T=some o->ZF h (rawInt T) (.bool c)
inductive lD (z TI TO i1 i2 l1 l2:Addr) (xs ys:Array Value) (k:Nat) (b:Bool) (h:Heap):Prop
 |mk (f0 f1 u v:Value):h.get? z=some (zO f0 f1 TI TO)->ZF h f0 f1->IsPair h TI (.ref i1) (.ref i2)->IsPair h TO u v->vB h i1 l1 xs k false->vB h i2 l2 ys k b->lD z TI TO i1 i2 l1 l2 xs ys k b h
theorem lD.at (D:lD z TI TO i1 i2 l1 l2 xs ys k b h) (q:∀c o,h.get? c=some o->h'.get? c=some o):lD z TI TO i1 i2 l1 l2 xs ys k b h':=by
 obtain⟨f0,f1,u,v,hz,hf,E8,E7,h1,h2⟩:=D;refine⟨f0,f1,u,v,q _ _ hz,?_,q _ _ E8,q _ _ E7,h1.at (q _) (q _),h2.at (q _) (q _)⟩;cases hf with
 |new=>exact .new
 |out e=>exact .out (q _ _ e)
theorem lD.ty {s:Shared} (D:lD z TI TO i1 i2 l1 l2 xs ys k b s.heap) :s.TypeIs (.ref z) "zip":=by
 obtain⟨f0,f1,u,v,hz,_⟩:=D;exact⟨_,hz,rfl⟩
theorem CA {T z:Addr} (q:T=z) (e:∃o,h.get? z=some o):∃o,h.get? T=some o:=q▸e
theorem vB.live (x:vB h it l xs k b):∃o,h.get? it=some o:=by
 cases b with
 |false=>obtain⟨⟨o,e,_⟩,_⟩:=x;exact⟨o,e⟩
 |true=>obtain⟨⟨o,e,_⟩,_⟩:=x;exact⟨o,e⟩
theorem lD.but {d:Addr} (D:lD z TI TO i1 i2 l1 l2 xs ys k b h) (nd:d∉ [z,TI,TO,i1,i2,l1,l2]) (q:∀c o,c≠d->h.get? c=some o->h'.get? c=some o) (hd:∃o,h'.get? d=some o):lD z TI TO i1 i2 l1 l2 xs ys k b h':=by
 obtain⟨f0,f1,u,v,hz,hf,E8,E7,h1,h2⟩:=D;have n:∀c∈ [z,TI,TO,i1,i2,l1,l2], ∀o,h.get? c=some o->h'.get? c=some o:=λc hc o=>q c o λe=>nd (e▸hc)
 refine⟨f0,f1,u,v,n _ (by simp) _ hz,?_,n _ (by simp) _ E8,n _ (by simp) _ E7,h1.at (n _ (by simp)) (n _ (by simp)),h2.at (n _ (by simp)) (n _ (by simp))⟩;cases hf with
 |new=>exact .new
 |@out T o c e=>
  by_cases g:T=d
  .obtain⟨o',hd⟩:=CA g hd;exact .out hd
  .exact .out (q _ _ g e)
theorem y9 {f0 f1:Value} {Q:Bool->Shared->Prop} (hz:s.heap.get? z=some (zO f0 f1 TI TO)) (hf:ZF s.heap f0 f1)
  (hn:f0 = .none->f1 = .bool false->Q true s) (ho:∀h' (T:Addr) o,f0=rawInt T->h'.get? z=some (zO f0 (.bool true) TI TO)->s.heap.get? T=some o->(f1 = .bool true/\h'=s.heap\/f1 = .bool false/\Heap.SameBut z s.heap h')->Q false {s with heap:=h'}):
  wpAny (model prog w) A (Builtin.SmallTypes.ownedTupleIsFree (.ref z)) Q E s:=by
 unfold Builtin.SmallTypes.ownedTupleIsFree;cases hf with
 |new=>exact YY (YX hz rfl (x:=.none) rfl (YU (hn rfl rfl)))
 |@out T o c e=>
  refine YY (YX hz rfl (x:=rawInt T) rfl ?_);have al:∀ {Q:Option Obj->Shared->Prop},Q (some o) s->wpAny (model prog w) A (loadIfAlive T) Q E s:=fun {Q} hq=>by
   have h':Q (s.heap.get? T) s:=by rw[e];exact hq
   exact λaa aA bF=>h'
  refine YY (al ?_);refine wpAny_ite_false rfl ?_;refine YY (YX hz rfl (x:=.bool c) rfl ?_);cases c with
  |true=>
   refine wpAny_ite_false rfl ?_;exact YU (ho s.heap T o rfl hz e (.inl ⟨rfl,rfl⟩))
  |false=>
   refine wpAny_ite_true rfl ?_;exact YY (YT hz (by simp) λh' a sb=>YU (ho h' T o rfl a e (.inr ⟨rfl,sb⟩)))
theorem iU {Q:Value->Shared->Prop} (hh:A.handled=none) (x:vB s.heap it l xs k b) (df:l≠it) (hQ:∀v h',xs[k]? = some v->vB h' it l xs (k+1) b->Heap.SameBut it s.heap h'->Q v {s with heap:=h'})
  (hE:xs[k]? = none→ ∀h' e,Heap.ExtBut it s.heap h'→(∃o,h'.get? e = some o∧o.cls = .type "StopIteration")→E (.ref e) {s with heap:=h'}) :wpAny (model prog w) A (Builtin.SmallTypes.nextOf (.ref it)) Q E s:=by
 cases q:xs[k]? with
 |none=>exact wB hh x q (hE q)
 |some v=>exact Aj x df q λh' a sb=>hQ v h' q a sb
theorem C7 {Q:Value->Shared->Prop} (hh:A.handled=none) (D:ZipApart z TI TO i1 i2 l1 l2) (S:lD z TI TO i1 i2 l1 l2 xs ys k b s.heap)
  (hQ:∀x y,xs[k]? = some x->ys[k]? = some y-> ∀h' T,s.heap.get? T=none->lD z TI TO i1 i2 l1 l2 xs ys (k+1) b h'->IsPair h' T x y->
   (∀c o,c≠z->c≠TO->c≠i1->c≠i2->s.heap.get? c=some o->h'.get? c=some o)->Q (.ref T) {s with heap:=h'})
  (hE:(xs[k]? = none∨ys[k]? = none)→ ∀h' e,(∀c o,c≠z→c≠TO→c≠i1→c≠i2→s.heap.get? c = some o→h'.get? c = some o)→(∃o,h'.get? e = some o∧o.cls = .type "StopIteration")→E (.ref e) {s with heap:=h'}) :
  wpAny (model prog w) A (Builtin.«zip.__next__» ⟨[.ref z],[]⟩) (λy6 s'=> ∃v,y6 = .done (.ret v)/\Q v s') E s:=by
 obtain⟨f0,f1,u,v,hz,hf,E8,E7,h1,h2⟩:=S;show wpAny _ _ (field (.ref z) 2 >>= _) _ _ _
 refine YY (YX hz rfl (x:=.bool false) rfl ?_);refine YY (YX hz rfl (x:=.ref TI) rfl ?_);refine YY (wpAny_seqItems E8 rfl ?_);refine YY (y9 hz hf (λe0 e1=>?_) λh₁ T o e0 jO hT Lk=>?_)
 .subst e0 e1
  refine wpAny_ite_true rfl ?_;refine YY (wpAny_rule ?_);refine YY (YX hz rfl (x:=.ref TO) rfl ?_);refine YY (YT hz (by simp) λh₁ jO kZ=>?_)
  replace jO:IsZip h₁ z TI TO .ellipsis:=jO
  have y6:(xs[k]? = none∨ys[k]? = none)→ ∀ {cy:Heap} {e:Addr},(∀c o,c≠z→c≠TO→c≠i1→c≠i2→h₁.get? c = some o→cy.get? c = some o)→IsZip cy z TI TO .ellipsis→(∃o,cy.get? e = some o∧o.cls = .type "StopIteration")→wpAny (model prog w) A (setField (.ref z) 0 .none) (fun aa s'=>E (.ref e) s') E {s with heap:=cy}:=fun hn {cy e} k Cf he=>by
   obtain⟨oe,Lm,Nc⟩:=he;have Ot:e≠z:=λx=>by subst x;rw[Cf]at Lm;cases Lm;simp at Nc
   exact YT Cf (by simp) λeK aa dc=>hE hn eK e (λc o c1 c2 c3 c4 x=>dc.extBut _ _ c1 (k c o c1 c2 c3 c4 (kZ.extBut _ _ c1 x))) ⟨oe,dc.extBut _ _ Ot Lm,Nc⟩
  refine YY ?_;simp only[zipIdx_cons,List.zipIdx_nil,forIn_cons,List.forIn_nil];refine YY (YY (wpAny_onRaise ?_));refine YY (iU hh (h1.at (λo=>kZ.extBut _ o D.i1z) (λo=>kZ.extBut _ o D.l1z)) D.l1i1 (λx cy hx tr dY=>YU ?_) λhn cy e dY he=>y6 (.inl hn) (λc o aa aA c3 bF x=>dY _ _ c3 x) (dY _ _ D.i1z.symm jO) he);refine YY (wpAny_seqItems (dY.extBut _ _ D.TOi1 (kZ.extBut _ _ D.TOz E7)) rfl ?_);refine YY (wpAny_updateSeq_pair (dY.extBut _ _ D.TOi1 (kZ.extBut _ _ D.TOz E7)) λeK n4 dc=>?_)
  replace n4:IsPair eK TO x v:=n4
  refine YY (wpAny_letGo (YU ?_));refine YY (YY (wpAny_onRaise ?_));have k3:∀c o,c≠z->c≠i1->c≠TO->s.heap.get? c=some o->eK.get? c=some o:=λc o c1 c2 c3 e=>dc.extBut _ _ c3 (dY.extBut _ _ c2 (kZ.extBut _ _ c1 e))
  refine YY (iU hh (h2.at (λo e=>k3 _ o D.i2z D.i12.symm D.TOi2.symm e) λo e=>k3 _ o D.l2z D.l2i1 D.l2TO e) D.l2i2 (λy EK hy IP ij=>YU ?_) λhn EK e ij he=>y6 (.inr hn) (λc o aa c2 c3 c4 x=>ij _ _ c4 (dc.extBut _ _ c2 (dY.extBut _ _ c3 x))) (ij _ _ D.i2z.symm (dc.extBut _ _ D.TOz.symm (dY.extBut _ _ D.i1z.symm jO))) he);refine YY (wpAny_seqItems (ij.extBut _ _ D.TOi2 n4) rfl ?_);refine YY (wpAny_updateSeq_pair (ij.extBut _ _ D.TOi2 n4) λjZ nZ kY=>?_)
  replace nZ:IsPair jZ TO x y:=nZ
  refine YY (wpAny_letGo (YU (YU ?_)));refine YY (wpAny_seqItems nZ rfl ?_);refine YY (wpAny_newTuple ?_);have hsz:jZ.objs.size=s.heap.objs.size:=by rw[kY.1,ij.1,dc.1,dY.1,kZ.1]
  have Ce:=kY.extBut _ _ D.TOz.symm (ij.extBut _ _ D.i2z.symm (dc.extBut _ _ D.TOz.symm (dY.extBut _ _ D.i1z.symm jO)));have k5:∀c o,c≠z->c≠TO->c≠i1->c≠i2->s.heap.get? c=some o->jZ.get? c=some o:=λc o c1 c2 c3 c4 e=>kY.extBut _ _ c2 (ij.extBut _ _ c4 (k3 c o c1 c3 c2 e))
  refine YY ?_;unfold Builtin.SmallTypes.ownedTupleHandOut;have Im:IsZip (jZ.push {cls:=.type "tuple",data:=.seq #[x,y]}) z TI TO .ellipsis:=Z2 _ Ce;refine YY (YT Im (by simp) fun uE Il Cj=>?_);refine YT Il (by simp) fun AV xA Ci=>?_
  replace xA:IsZip AV z TI TO (rawInt jZ.objs.size):=xA
  have up:∀c o,c≠z->jZ.get? c=some o->AV.get? c=some o:=λc o c1 e=>Ci.extBut _ _ c1 (Cj.extBut _ _ c1 (Z2 _ e))
  have Mt:=ne_of_gt (ZZ Ce);have tq:=Ci.extBut _ _ Mt (Cj.extBut _ _ Mt (Z1 _ rfl));refine YU ⟨_,rfl,?_⟩;have kk:∀c o,c≠z->c≠TO->c≠i1->c≠i2->s.heap.get? c=some o->AV.get? c=some o:=λc o c1 c2 c3 c4 e=>up c o c1 (k5 c o c1 c2 c3 c4 e)
  exact hQ x y hx hy AV _ (by rw[hsz];exact Heap.get?_none_of_le (Zi _)) ⟨_,_,x,y,xA,.out tq,kk _ _ D.TIz D.TITO D.TIi1 D.TIi2 E8,up _ _ D.TOz nZ,tr.at (λo e=>up _ o D.i1z (kY.extBut _ _ D.TOi1.symm (ij.extBut _ _ D.i12 (dc.extBut _ _ D.TOi1.symm e)))) (λo e=>up _ o D.l1z (kY.extBut _ _ D.l1TO (ij.extBut _ _ D.l1i2 (dc.extBut _ _ D.l1TO e)))),IP.at (λo e=>up _ o D.i2z (kY.extBut _ _ D.TOi2.symm e)) (λo e=>up _ o D.l2z (kY.extBut _ _ D.l2TO e))⟩ tq kk
 .have k1:∀c o,c≠z->s.heap.get? c=some o->h₁.get? c=some o:=λc o c1 e=>by
   rcases Lk with⟨_,rfl⟩|⟨_,sb⟩
   .exact e
   .exact sb.extBut _ _ c1 e
  have K7:h₁.objs.size=s.heap.objs.size:=by
   rcases Lk with⟨_,rfl⟩|⟨_,sb⟩
   .rfl
   .exact sb.1
  subst e0;refine wpAny_ite_false rfl ?_;refine YY ?_;rw[<- Array.forIn_toList];simp only[forIn_cons,List.forIn_nil];refine YY (YY (wpAny_holding ?_));refine YY (iU (s:= {s with heap:=h₁}) hh (h1.at (λo=>k1 _ o D.i1z) (λo=>k1 _ o D.l1z)) D.l1i1 (λx cy hx tr dY=>YU (YU ?_)) λhn cy e dY he=>hE (.inl hn) cy e (λc o c1 aa c3 aA x=>dY _ _ c3 (k1 c o c1 x)) he);refine YY (YY (wpAny_holding ?_));have k2:∀c o,c≠z->c≠i1->s.heap.get? c=some o->cy.get? c=some o:=λc o c1 c2 e=>dY.extBut _ _ c2 (k1 c o c1 e)
  refine YY (iU (s:= {s with heap:=cy}) hh (h2.at (λo e=>k2 _ o D.i2z D.i12.symm e) λo e=>k2 _ o D.l2z D.l2i1 e) D.l2i2 (λy eK hy Cw dc=>YU (YU (YU ?_))) λhn eK e dc he=>hE (.inr hn) eK e (λc o c1 aa c3 c4 x=>dc _ _ c4 (k2 c o c1 c3 x)) he);show wpAny _ _ (newTuple [x,y] >>= _) _ _ _
  refine YY (wpAny_newTuple (YU ⟨_,rfl,?_⟩));have hsz:eK.objs.size=s.heap.objs.size:=by rw[dc.1,dY.1,K7]
  have P:∀ {c:Addr} {o:Obj},eK.get? c = some o→(eK.push {cls:=.type "tuple",data:=.seq #[x,y]}).get? c = some o:=fun e=>Z2 _ e
  have kk:∀c o,c≠z->c≠i1->c≠i2->s.heap.get? c=some o->eK.get? c=some o:=λc o c1 c2 c3 e=>dc.extBut _ _ c3 (k2 c o c1 c2 e)
  have tq:IsPair (eK.push {cls:=.type "tuple",data:=.seq #[x,y]}) eK.objs.size x y:=Z1 _ rfl;have xL:∃o,eK.get? T=some o:=by
   by_cases q1:T=i1
   .obtain⟨o,e⟩:=tr.live;exact⟨o,q1▸dc.extBut _ _ D.i12 e⟩
   by_cases q2:T=i2
   .exact q2▸Cw.live
   by_cases q3:T=z
   .exact CA q3 ⟨_,(dc.extBut _ _ D.i2z.symm (dY.extBut _ _ D.i1z.symm jO))⟩
   exact⟨o,kk T o q3 q1 q2 hT⟩
  obtain⟨oT,xL⟩:=xL;exact hQ x y hx hy _ _ (by rw[hsz];exact Heap.get?_none_of_le (Zi _)) ⟨_,_,u,v,P (dc.extBut _ _ D.i2z.symm (dY.extBut _ _ D.i1z.symm jO)),.out (P xL),P (kk _ _ D.TIz D.TIi1 D.TIi2 E8),P (kk _ _ D.TOz D.TOi1 D.TOi2 E7),tr.at (λo e=>P (dc.extBut _ _ D.i12 e)) (λo e=>P (dc.extBut _ _ D.l1i2 e)),Cw.at (λo e=>P e) (λo e=>P e)⟩ tq λc o c1 aa c3 c4 e=>P (kk c o c1 c3 c4 e)
theorem BW {Q:Option Value->Shared->Prop} (hh:A.handled=none) (D:ZipApart z TI TO i1 i2 l1 l2) (S:lD z TI TO i1 i2 l1 l2 xs ys k b s.heap)
  (hQ:∀x y,xs[k]? = some x->ys[k]? = some y-> ∀h' T,s.heap.get? T=none->lD z TI TO i1 i2 l1 l2 xs ys (k+1) b h'->IsPair h' T x y->
   (∀c o,c≠z->c≠TO->c≠i1->c≠i2->s.heap.get? c=some o->h'.get? c=some o)->Q (some (.ref T)) {s with heap:=h'})
  (hE:(xs[k]? = none\/ys[k]? = none)-> ∀h',(∀c o,c≠z->c≠TO->c≠i1->c≠i2->s.heap.get? c=some o->h'.get? c=some o)->Q none {s with heap:=h'}):
  wpAny (model prog w) A (pyNext (.ref z)) Q E s:=by
 unfold pyNext;refine YY (wpAny_attempt (wpAny_callSpecial?_slot (name:=Str.ofString "__next__") S.ty F.slot_zip_next (wpAny_call_entry F.slot_zip_next S.ty F.entry_zip_next (C7 hh D S (fun x y hx hy h' T a0 a1 a2 a3=>YU (hQ x y hx hy h' T a0 a1 a2 a3)) fun hn h' e hk he=>?_) (F.args_zip_next_1 _))));obtain ⟨o,ho,hc⟩:=he;exact YY (wpAny_isInstance (T:="StopIteration") (b:=true) ⟨o,ho,hc⟩ isSubtype_stop (YU (hE hn _ hk)))
theorem qJ {Q:Option Value->Shared->Prop} (hh:A.handled=none) (D:ZipApart z TI TO i1 i2 l1 l2) (S:lD z TI TO i1 i2 l1 l2 xs ys k b s.heap) (hx:xs[k]? = some x) (hy:ys[k]? = some y)
  (hQ:∀h' T,s.heap.get? T=none->lD z TI TO i1 i2 l1 l2 xs ys (k+1) b h'->IsPair h' T x y->
   (∀c o,c≠z->c≠TO->c≠i1->c≠i2->s.heap.get? c=some o->h'.get? c=some o)->Q (some (.ref T)) {s with heap:=h'}):
  wpAny (model prog w) A (pyNext (.ref z)) Q E s:=
 BW hh D S (λx' y' uF N7 h' T a0 a1 a2 a3=>hQ h' T a0 a1 (Y9 (uF.symm.trans hx)▸Y9 (N7.symm.trans hy)▸a2) a3) λhn=>hn.elim (λq=>nomatch q.symm.trans hx) λq=>nomatch q.symm.trans hy
theorem t6 {Q:Option Value->Shared->Prop} (hh:A.handled=none) (D:ZipApart z TI TO i1 i2 l1 l2) (S:lD z TI TO i1 i2 l1 l2 xs ys k b s.heap) (E2:xs[k]? = none\/ys[k]? = none)
  (hQ:∀h',(∀c o,c≠z->c≠TO->c≠i1->c≠i2->s.heap.get? c=some o->h'.get? c=some o)->Q none {s with heap:=h'}):wpAny (model prog w) A (pyNext (.ref z)) Q E s:=
 BW hh D S (λx y hx hy=>E2.elim (λq=>nomatch q.symm.trans hx) λq=>nomatch q.symm.trans hy) λaa=>hQ
theorem GM {Q:Value->Shared->Prop} (S:lD z TI TO i1 i2 l1 l2 xs ys k b s.heap) (h:Q (.ref z) s):wpAny (model prog w) A (pyIter (.ref z)) Q E s:=by
 refine wpAny_pyIter_slot S.ty F.slot_zip_iter (wpAny_call_entry F.slot_zip_iter S.ty F.entry_zip_iter ?_ (F.args_zip_iter_1 _));exact YU ⟨_,rfl,"zip",_,S.ty,F.slot_zip_next.lookup,h⟩
end
def jK (h:Heap) (l:Addr) (xs:Array Value):Bool->Prop
 |false=>h.IsTuple l xs
 |true=>h.IsList l xs
noncomputable abbrev K1 (l:Addr) (b:Bool) :Obj:= {cls:=.type (if b then "list_iterator" else "tuple_iterator"),data:=.fields #[.ref l,.int 0 0]}
theorem jK.at {l:Addr} {xs:Array Value} {b:Bool} (x:jK h l xs b) (k:∀o,h.get? l=some o->h'.get? l=some o):jK h' l xs b:=by
 cases b with
 |false=>obtain⟨o,e,r⟩:=x;exact⟨o,k o e,r⟩
 |true=>obtain⟨o,e,r⟩:=x;exact⟨o,k o e,r⟩
theorem jK.its {i l:Addr} {xs:Array Value} {b:Bool} (x:jK h l xs b) (e:h.get? i=some (K1 l b)):vB h i l xs 0 b:=by
 cases b with
 |false=>exact⟨⟨_,e,rfl,rfl⟩,x⟩
 |true=>exact⟨⟨_,e,rfl,rfl⟩,x⟩
theorem xr {prog:Program} {w:World} {l:Addr} {xs:Array Value} {b:Bool} {Q:Value->Shared->Prop} (x:jK s.heap l xs b) (h:Q (.ref s.heap.objs.size) {s with heap:=s.heap.push (K1 l b)}):wpAny (model prog w) A (pyIter (.ref l)) Q E s:=by
 cases b with
 |false=>exact wpAny_pyIter_tuple x h
 |true=>exact wpAny_pyIter_list x h
set_option maxHeartbeats 4000000 in
theorem GL (l1 l2:Addr) (xs ys:Array Value) (b:Bool) :Meets (Builtin.«zip.__new__» ⟨[.type "zip",.ref l1,.ref l2],[]⟩) (fun aa R s=>jK s.heap l1 xs false∧jK s.heap l2 ys b∧
  ∀h',lD (s.heap.objs.size+4) (s.heap.objs.size+2) (s.heap.objs.size+3) s.heap.objs.size (s.heap.objs.size+1) l1 l2 xs ys 0 b h'->(∀c o,s.heap.get? c=some o->h'.get? c=some o)->R (.ok (.ret (.ref (s.heap.objs.size+4)))) {s with heap:=h'}):=
 .of_wp λprog w A R s h=>by
  obtain⟨hp,g,d,tk,os⟩:=s;obtain⟨EW,rG,h⟩:=h;have EN:=sub_zip;have P:∀ {h:Heap} {c:Addr} {o:Obj} (o':Obj),h.get? c=some o->(h.push o').get? c=some o:=λo' e=>Z2 o' e
  have N:∀ {h:Heap} {n:Nat} (o:Obj),h.objs.size=n->o.isFreed=false->(h.push o).get? n=some o:=fun {h n} o e f=>e▸Z1 h f
  have OF:jK (Shared.heap ⟨hp,g,d,tk,os⟩) l1 xs false:=EW;have OE:jK (Shared.heap ⟨hp.push (K1 l1 false),g,d,tk,os⟩) l2 ys b:=rG.at λo=>P _
  wp_walk using xr OF,xr OE
  refine⟨_,rfl,?_⟩;simp only[Heap.size_push]at h ⊢;refine h _ ⟨_,_,_,_,N _ (by simp only[Heap.size_push]) rfl,.new,P _ (P _ (N _ (by simp only[Heap.size_push]) rfl)),P _ (N _ (by simp only[Heap.size_push]) rfl),(EW.at λo e=>P _ (P _ (P _ (P _ (P _ e))))).its (P _ (P _ (P _ (P _ (N _ rfl rfl))))),(rG.at λo e=>P _ (P _ (P _ (P _ (P _ e))))).its (P _ (P _ (P _ (N _ (by simp only[Heap.size_push]) rfl))))⟩ λc o e=>P _ (P _ (P _ (P _ (P _ e))))
theorem FG {prog:Program} {w:World} {A:Around} {E:Value->Shared->Prop} {l1 l2:Addr} {xs ys:Array Value} {b:Bool} {Q:Value->Shared->Prop} (EW:jK s.heap l1 xs false) (rG:jK s.heap l2 ys b)
  (h:∀h',lD (s.heap.objs.size+4) (s.heap.objs.size+2) (s.heap.objs.size+3) s.heap.objs.size (s.heap.objs.size+1) l1 l2 xs ys 0 b h'->(∀c o,s.heap.get? c=some o->h'.get? c=some o)->Q (.ref (s.heap.objs.size+4)) {s with heap:=h'}):
  wpAny (model prog w) A (call (.type "zip") [.ref l1,.ref l2]) Q E s:=
 callType_new F.called_zip (by decide) (F.typeCall_zip_2 _ _) (F.newCall_zip_2 _ _) (λobj=>F.args_object_init_3 obj _ _) F.entry_zip_new (GL l1 l2 xs ys b) ⟨EW,rG,λh' S k=>⟨S.ty,h h' S k⟩⟩
section
variable {prog:Program} {w:World} {A:Around} {E:Value->Shared->Prop} {s:Shared}
theorem xn:typeLookup (.type "zip") "keys" = pure none:=am_miss_of_fast (by kernel_rfl)
theorem C6:typeLookup (.type "zip") "__getattr__" = pure none:=am_miss_of_fast (by kernel_rfl)
theorem oh:entryFor table "zip.__getattribute__" = some Builtin.«object.__getattribute__»:=
 entryFor_alias (id':="object.__getattribute__") (by kernel_rfl) (by decide +kernel) (by decide +kernel) (by kernel_rfl)
theorem vH (a:Addr) (xs:Array Value) (u:Tok) :Meets (Builtin.«object.__getattribute__» ⟨[.ref a,.str "keys" u],[]⟩) (fun A R s=>s.heap.get? a = some {cls:=.type "zip",dict:=none,data:=.fields xs,slots:=#[]}∧raisesAttr (.ref a) "keys" A R s):=
 Meets.of_wp λprog w A R s hs=>by
  obtain ⟨hp,g,d,tk,os⟩:=s;obtain ⟨hx,hs⟩:=hs;have hT:(⟨hp,g,d,tk,os⟩ :Shared).TypeIs (.ref a) "zip":=⟨_,hx,rfl⟩
  have hk:=xn;unfold Builtin.«object.__getattribute__»
  repeat (any_goals (first|assumption|wp_step))
  try simp only [show (["__module__","__name__","__qualname__","__doc__","__annotations__"] :List Str).contains "keys" = false by decide,false_eq_true,if_false]
  repeat (any_goals (first|assumption|wp_step))
  exact wpAny_raiseAttrError hs.1 hs.2 (attrMsg_fits (by decide +kernel) (by size_fits))
theorem qH {a:Addr} {xs:Array Value} {Q:Option Value→Shared→Prop} (hx:s.heap.get? a = some {cls:=.type "zip",dict:=none,data:=.fields xs,slots:=#[]}) (hA:A.handled = none)
  (h:∀h' tk,(∀b o,s.heap.get? b = some o→h'.get? b = some o)→Q none {s with heap:=h',toks:=tk}) :wpAny (model prog w) A (getAttr? (.ref a) "keys") Q E s:=by
 obtain ⟨hp,g,d,tk,os⟩:=s;have hT:∀JY,(⟨hp,g,d,JY,os⟩ :Shared).TypeIs (.ref a) "zip":=fun aa=>⟨_,hx,rfl⟩
 have f1:=sub_AttributeError;have f3:=F.slot_zip_getattribute.lookup;have f4:=F.slot_zip_getattribute.bind (.ref a);have f5:=C6;unfold getAttr? getAttrBy? getAttrBy
 repeat (any_goals (first | assumption | exact hT _ | ((with_reducible show wpAny _ _ (call (builtin "zip.__getattribute__") _ _) _ _ _); refine call_meets F.slot_zip_getattribute (hT _) oh (F.args_zip_getattribute_2 _ _) (vH a xs _) ⟨hx,hA,fun h' JY e uF=>?_⟩) | wp_step))
 obtain⟨t',u',he⟩:=uF.there;show wpAny _ _ (getattributeRaised _ _ _ _ _ _ _) _ _ _
 unfold getattributeRaised
 repeat (any_goals (first|assumption|wp_step))
 exact h _ _ uF.of.keeps
theorem mG:entryFor table "dict.update.loop" = some Builtin.«dict.update.loop»:=entryFor_of_tree (by kernel_rfl)
theorem gQ:plainId "dict.update.loop" = true:=by decide +kernel
end
section
variable [Hp]
variable {A:Around} {E:Value->Shared->Prop} {s:Shared} {Z:Addr->Prop} {a:Value} {z TI TO i1 i2 l1 l2 d:Addr} {xs ys:List Value} {b:Bool} {R:Result->Shared->Prop}
theorem g9 {l r:List α} {v:α} (h:l.drop i=v::r):l.toArray[i]? = some v/\l.drop (i+1)=r:=by
 refine⟨?_,by refine Er List.tail_drop.symm (Er h ?_);rfl⟩;refine Er (List.getElem?_toArray) ?_;have:=Y7 (·[0]?) h
 simpa using this
theorem mH {l:List α} (h:l.drop i=[]):l.toArray[i]? = none:=by
 exact Er (List.getElem?_toArray) (List.getElem?_eq_none (List.drop_eq_nil_iff.mp h))
def ri (z TO i1 i2 d c:Addr):Prop:=c≠z/\c≠TO/\c≠i1/\c≠i2/\c≠d
theorem yp {k:Nat} {us:List (Str×Value)} {kvs:List (D×D)} (hh:A.in1.handled=none) (ZA:ZipApart z TI TO i1 i2 l1 l2) (nd:d∉ [z,TI,TO,i1,i2,l1,l2]) (zZ:∀c,Z c->ri z TO i1 i2 d c) (S:lD z TI TO i1 i2 l1 l2 xs.toArray ys.toArray k b s.heap) (E2:xs.toArray[k]? = none\/ys.toArray[k]? = none)
  (hd:s.heap.DictOf (strKind prog w) d us) (K:aZ s.heap Z us kvs) (hb:us.length<=1000)
  (hR:∀h' tk hY,h'.DictOf (strKind prog w) d hY->aZ h' Z hY kvs->hY.length<=1000->(∀c o,ri z TO i1 i2 d c->s.heap.get? c=some o->h'.get? c=some o)->R (.ok (.ret .none)) {s with heap:=h',toks:=tk}):
  codeAny (model prog w) A (.builtin "dict.update.loop" ⟨[.ref d,.ref z,rawInt k,.none],[]⟩) R s:=by
 refine codeAny_builtin mG ?_;refine Er (Around.under_plainId gQ _) ?_;refine YY (t6 hh ZA S E2 λh' ex=>?_);have ko:∀c o,ri z TO i1 i2 d c->s.heap.get? c=some o->h'.get? c=some o:=λc o q e=>ex c o q.1 q.2.1 q.2.2.1 q.2.2.2.1 e
 have c5:h'.DictOf (strKind prog w) d us:=by
  exact iM hd λo es ep hd=>(⟨o,es,ep,ex d o (λq=>nd (by simp[q])) (λq=>nd (by simp[q])) (λq=>nd (by simp[q])) (λq=>nd (by simp[q])) hd.1,hd.2⟩)
 exact YY (YU (YU (hR h' s.toks us c5 (K.mono (λc o z e=>ko c o (zZ c z) e) λaa z=>z) hb ko)))
theorem Bn (hh:A.in1.handled=none) (ZA:ZipApart z TI TO i1 i2 l1 l2) (nd:d∉ [z,TI,TO,i1,i2,l1,l2]) (zZ:∀c,Z c->ri z TO i1 i2 d c):∀(ks vs:List D) (k:Nat) (s:Shared) (us:List (Str×Value)) (acc kvs:List (D×D)),lD z TI TO i1 i2 l1 l2 xs.toArray ys.toArray k b s.heap->am s.heap Z (xs.drop k) ks->am s.heap Z (ys.drop k) vs->lO acc (m4 ks vs)=some kvs->
  s.heap.DictOf (strKind prog w) d us->aZ s.heap Z us acc->us.length+ks.length<=1000->
  (∀h' tk hY,h'.DictOf (strKind prog w) d hY->aZ h' Z hY kvs->hY.length<=1000->(∀c o,ri z TO i1 i2 d c->s.heap.get? c=some o->h'.get? c=some o)->R (.ok (.ret .none)) {s with heap:=h',toks:=tk})->
  codeAny (model prog w) A (.builtin "dict.update.loop" ⟨[.ref d,.ref z,rawInt k,.none],[]⟩) R s:=by
 intro ks
 induction ks with
 |nil=>
  intro vs k s us acc kvs S RX RY he hd K hb hR;generalize hv:xs.drop k=r at RX;refine ag λG2 g2=>?_
  cases RX;obtain rfl:=aI he;exact g2 (yp hh ZA nd zZ S (.inl (mH hv)) hd K hb hR)
 |cons c ks ih=>
  intro vs k s us acc kvs S RX RY he hd K hb hR;generalize hv:xs.drop k=r at RX;generalize hw:ys.drop k=r' at RY;refine ag λG1 g1=>?_
  cases RX with
  |@cons x r1 _ _ rx RX=>
  refine g1 ?_;refine ag λG g=>?_
  cases RY with
  |nil=>
   refine g ?_;obtain rfl:=aI he;exact yp hh ZA nd zZ S (.inr (mH hw)) hd K (Zh (Zl _ _) hb) hR
  |@cons y r2 e vs ry RY=>
  refine g ?_;refine ag λG3 g3=>?_
  cases rx with
  |str kx t o1 o2=>
   refine g3 ?_;refine codeAny_builtin mG ?_;refine Er (Around.under_plainId gQ _) ?_;refine YY (qJ hh ZA S (g9 hv).1 (g9 hw).1 λh₁ T nT bb hT ex=>?_);have IG:h₁.DictOf (strKind prog w) d us:=by
    exact iM hd λo es ep hd=>(⟨o,es,ep,ex d o (λq=>nd (by simp[q])) (λq=>nd (by simp[q])) (λq=>nd (by simp[q])) (λq=>nd (by simp[q])) hd.1,hd.2⟩)
   refine YY (wpAny_holding ?_);refine YY (wpAny_tryCatch ?_);unfold Builtin.Dict.pairItems;refine YY (wpAny_typeOf (T:="tuple") ⟨_,hT,rfl⟩ ?_);refine Er (Y0 (by decide)) ?_;refine YY (wpAny_seqItems hT rfl (YU ?_));refine wpAny_holding (wpAny_dictSet_pairs (s:= {s with heap:=h₁}) (strKind_is _ _ kx t) IG (fun cy Cr B6=>?_) (by refine Er b6.symm ?_; exact Zh (Zh (Zl _ _) hb) (by decide)));have k2:∀c o,ri z TO i1 i2 d c→s.heap.get? c=some o→cy.get? c=some o:=fun c o q e=>B6.extBut c o q.2.2.2.2 (ex c o q.1 q.2.1 q.2.2.1 q.2.2.2.1 e)
   have kz:∀c o,Z c->s.heap.get? c=some o->cy.get? c=some o:=λc o z e=>k2 c o (zZ c z) e
   have da:(stored us kx y).length<=us.length+1:=by
    unfold stored;split
    .simp
    .simp
   refine YU ⟨plainId_quiet gQ _,?_⟩;refine ih vs (k+1) {s with heap:=cy,toks:=s.toks+1} (stored us kx y) (fH acc kx e) kvs (bb.but nd (λc o q e=>B6.extBut c o q e) (let ⟨o,_,_,e,_⟩:=Cr;⟨o,e⟩)) ((g9 hv).2▸RX.mono kz λaa z=>z) ((g9 hw).2▸RY.mono kz λaa z=>z) he Cr ((K.set o1 o2 ry).mono kz λaa z=>z) ?_ λh' tk hY a1 a2 a3 a4=>hR h' tk hY a1 a2 a3 λc o q e=>a4 c o q (k2 c o q e)
   have:us.length+(ks.length+1)<=1000:=hb;exact(Ln [(stored us kx y).length,ks.length,us.length] (.w (.a .x .y) (.c 1000)) [Gl (.a .z (.p 1 .y)) (.c 1000),Gl .x (.p 1 .z)] rfl hb da)
  |_=>exact g3 (ah he)
theorem Dn (hs:3<h.objs.size):(h.objs.size==sysModules)=false:=by
 rw[beq_eq_false_iff_ne];intro e;rw[e]at hs;exact absurd hs (by decide)
theorem Af {d e:D} {r:Rv} {b:Value} (hs:3<s.heap.objs.size) (hh:A.handled=none) (he:ke .dzip [d,e]=some r) (ra:dE s.heap Z a d) (rb:dE s.heap Z b e) (zl:∀b,Z b-> ∃o,s.heap.get? b=some o):
  wpAny (model prog w) A (call (.type "zip") [a,b]) (fun v s₁=>wpAny (model prog w) A (call (.type "dict") [v]) (Op Z s r) E s₁) E s:=by
 refine ag λG g=>?_
 obtain ⟨ks,vs,bl,rfl,hx,he,l2,ys,n2,rfl,rG,R2⟩ :∃ks vs, ∃bl:Bool,d = .tuple ks∧ks.length≤1000∧((lO [] (m4 ks vs)).map fun kvs=>Rv.own (.dict kvs)) = some r∧ ∃l2 ys n2,b = .ref l2∧s.heap.get? l2 = some {cls:=.type (if bl then "list" else "tuple"),data:=.seq (List.toArray ys) n2}∧am s.heap Z ys vs:=by
  cases d with
  |tuple ks=>
   cases e with
   |tuple vs=>
    obtain⟨h1,h2⟩:ks.length<=1000/\_:=by
     have he:(if ks.length<=1000 then(lO [] (m4 ks vs)).map λkvs=>Rv.own (.dict kvs) else none)=some r:=he
     by_cases q:ks.length<=1000
     .rw[Y0 q]at he;exact⟨q,he⟩
     .rw[Y1 q]at he;exact ah he
    obtain⟨l,ws,n,e1,hl,_,R,_⟩:=rb.tuple;exact⟨ks,vs,false,rfl,h1,h2,l,ws,n,e1,hl,R⟩
   |list vs=>
    obtain⟨h1,h2⟩:ks.length<=1000/\_:=by
     have he:(if ks.length<=1000 then(lO [] (m4 ks vs)).map λkvs=>Rv.own (.dict kvs) else none)=some r:=he
     by_cases q:ks.length<=1000
     .rw[Y0 q]at he;exact⟨q,he⟩
     .rw[Y1 q]at he;exact ah he
    obtain⟨l,ws,n,e1,hl,_,R⟩:=rb.list;exact⟨ks,vs,true,rfl,h1,h2,l,ws,n,e1,hl,R⟩
   |_=>exact ah he
  |_=>exact ah he
 obtain⟨l1,xs,n1,rfl,EW,_,R1,_⟩:=ra.tuple;obtain⟨kvs,hk,rfl⟩:=Z9 he;have s2:jK s.heap l2 ys.toArray bl:=by
  cases bl with
  |false=>exact⟨_,rG,rfl,_,rfl⟩
  |true=>exact⟨_,rG,rfl,_,rfl⟩
 have a1:=ZZ EW;have a2:=ZZ rG;generalize hN:s.heap.objs.size=N at *;refine g ?_;refine FG ⟨_,EW,rfl,_,rfl⟩ s2 λh₁ S k1=>?_
 rw[hN]at S ⊢;have wY:N+4<h₁.objs.size:=by obtain⟨_,_,_,_,e,_,_,_,_,_⟩:=S;exact ZZ e
 let H1:=h₁.push {cls:=.type "dict",data:=.dict #[]}
 refine callType_codes (Q₁:=λobj s₁=>obj = .ref h₁.objs.size/\s₁={s with heap:=H1}) PySem.F.kt_called_dict (PySem.F.kt_typeCall_dict_1 _) PySem.F.entry_dict_init (kt_code_dict_new (s:= {s with heap:=h₁}) _ ⟨rfl,rfl⟩) ?_
 rintro obj s₁ ⟨rfl,rfl⟩
 have ES:H1.DictOf (strKind prog w) h₁.objs.size []:=Heap.DictOf.new h₁;refine ⟨ES.typeIs,PySem.F.args_dict_init_2 _ _,?_⟩;unfold Builtin.«dict.__init__»;refine YY ?_;unfold Builtin.Dict.selfAndRest;refine YY (wpAny_notOrdered_dict ES.typeIs ?_);refine YU ?_;show wpAny _ _ (Builtin.Dict.updateFrom "dict.__init__" h₁.objs.size (.ref (N + 4)) [] .none) _ _ _
 unfold Builtin.Dict.updateFrom;have S1:lD (N+4) (N+2) (N+3) N (N+1) l1 l2 xs.toArray ys.toArray 0 bl H1:=S.at λc o e=>pK _ c o e
 refine YY (wpAny_typeOf (T:="zip") S1.ty (s:= {s with heap:=H1}) ?_);refine Er (Y0 (by decide)) ?_;obtain ⟨zx,Cg⟩ :∃xs,H1.get? (N + 4) = some {cls:=.type "zip",dict:=none,data:=.fields xs,slots:=#[]}:=by obtain ⟨_,_,_,_,e,_,_,_,_,_⟩:=S1; exact ⟨_,e⟩
 refine YY (qH (s:= {s with heap:=H1}) Cg (by simp[hh]) λcy B1 k2=>?_);refine Er (Y0 (show(none:Option Value).isNone=true from rfl)) ?_;refine YY (wpAny_rule (YY (GM (s:= {s with heap:=cy,toks:=B1}) (S1.at λc o e=>k2 c o e) ?_)));have k3:∀c o,s.heap.get? c=some o->cy.get? c=some o:=λc o e=>k2 c o (pK _ c o (k1 c o e))
 refine YU ⟨plainId_quiet gQ _,?_⟩;have MG:∀c,c<N->ri (N+4) (N+3) N (N+1) h₁.objs.size c:=λc h=>⟨ne_of_lt (Ze h (Zl _ _)),ne_of_lt (Ze h (Zl _ _)),ne_of_lt h,ne_of_lt (Ze h (Zl _ _)),ne_of_lt (Nat.lt_trans (Ze h (Zl _ 4)) wY)⟩
 refine Bn (s:= {s with heap:=cy,toks:=B1}) (Z:=Z) (by simp[hh]) (zipApart_new a1 a2) (λq=>by simp only[Zv,Zp,or_false]at q;rcases q with q|q|q|q|q|q|q<;>(rw[q]at wY;first|exact Zg N (Nat.lt_trans (Zf (Zl N 4) wY) a1)|exact Zg N (Nat.lt_trans (Zf (Zl N 4) wY) a2)|(first|exact(Lf [N] [Gl (.p 1 (.p 4 .x)) (.p 4 .x)] rfl wY)|exact(Lf [N] [Gl (.p 1 (.p 4 .x)) (.p 2 .x)] rfl wY)|exact(Lf [N] [Gl (.p 1 (.p 4 .x)) (.p 3 .x)] rfl wY)|exact(Lf [N] [Gl (.p 1 (.p 4 .x)) .x] rfl wY)|exact(Lf [N] [Gl (.p 1 (.p 4 .x)) (.p 1 .x)] rfl wY)))) (λc z=>MG c (by refine aX (zl c z) λo e=>?_;exact hN▸ZZ e)) ks vs 0 [] [] kvs (S1.at λc o e=>k2 c o e) (by refine Er drop_zero ?_;exact R1.mono (λc o aa=>k3 c o) λaa z=>z) (by refine Er drop_zero ?_;exact R2.mono (λc o aa=>k3 c o) λaa z=>z) hk (ES.keep k2) .nil (by simpa using hx) λh' tk hY a1 a2 a3 a4=>?_
 exact⟨rfl,h',tk,rfl,λc o e=>a4 c o (MG c (hN▸ZZ e)) (k3 c o e),.own (Heap.get?_none_of_le (Ln [s.heap.objs.size,h₁.objs.size,N] (.w .x .y) [Ge .x .z,Gl (.p 1 (.p 4 .z)) .y] rfl hN wY)) (.dict ⟨Dn (h:=h₁) (Ln [h₁.objs.size,N] (.w (.p 1 (.c 3)) .x) [Gl (.p 1 (.c 3)) .y,Gl (.p 1 (.p 4 .y)) .x] rfl hs wY),a1⟩ (Zh a3 (by decide)) a2)⟩
end
theorem ph:Manifest.owners.lookup (String.ofList ['d','e','s','r','e','v','e','r'].reverse)=some Manifest.sig_reversed:=by kernel_rfl
theorem dg:PySem.Slot "reversed" "__next__" "reversed.__next__":=
 .of (owner:="reversed") (n:="__next__") (by rw [typeLookup_type]; refine Er builtinLookup_eq_fast ?_; kernel_rfl) (by decide +kernel) (by decide +kernel) (by decide +kernel) (.inl (by decide +kernel)) (by rw [isSubtype_type]; kernel_rfl)
theorem iQ:PySem.Slot "reversed" "__iter__" "reversed.__iter__":=
 .of (owner:="reversed") (n:="__iter__") (by rw [typeLookup_type]; refine Er builtinLookup_eq_fast ?_; kernel_rfl) (by decide +kernel) (by decide +kernel) (by decide +kernel) (.inl (by decide +kernel)) (by rw [isSubtype_type]; kernel_rfl)
theorem nt:PySem.Slot "reversed" "__init__" "object.__init__":=
 .of (owner:="object") (n:="__init__") (by rw [typeLookup_type]; refine Er builtinLookup_eq_fast ?_; kernel_rfl) (by decide +kernel) (by decide +kernel) (by decide +kernel) (.inl (by decide +kernel)) (by rw [isSubtype_type]; kernel_rfl)
theorem ik:entryFor table "reversed.__next__" = some Builtin.«reversed.__next__»:=entryFor_of_tree (by kernel_rfl)
theorem lN:entryFor table "reversed.__iter__" = some Builtin.«dict_keyiterator.__iter__»:=
 entryFor_alias (id':="dict_keyiterator.__iter__") (by kernel_rfl) (by first | rfl | decide +kernel | (unfold String.splitOn; simp +decide [String.splitOnAux])) (by decide +kernel) (by kernel_rfl)
theorem jh (a:Value) :argsOk "reversed.__next__" ⟨[a],[]⟩:=by
 unfold argsOk; refine Er (signature?_of (id:="reversed.__next__") (n:=['_','_','t','x','e','n','_','_']) (o:=['d','e','s','r','e','v','e','r']) (by kernel_rfl) ph) ?_; kernel_rfl
theorem oA (a:Value) :argsOk "reversed.__iter__" ⟨[a],[]⟩:=by
 unfold argsOk; refine Er (signature?_of (id:="reversed.__iter__") (n:=['_','_','r','e','t','i','_','_']) (o:=['d','e','s','r','e','v','e','r']) (by kernel_rfl) ph) ?_; kernel_rfl
theorem vo:TypeCalled "reversed" "reversed.__new__" "object.__init__":=
 ⟨by decide +kernel,by decide +kernel,⟨_,_,F.mro_reversed⟩,F.made_reversed,by decide +kernel,F.sub_reversed_self,nt⟩
theorem um:typeLookup (.type "tuple") "__reversed__" = pure none:=am_miss_of_fast (by kernel_rfl)
theorem vN:isSubtype (.type "tuple") (.type "dict") = pure false:=by rw [isSubtype_type]; kernel_rfl
def oH (h:Heap) (a t:Addr) (i:Int) :Prop:=h.get? a = some {cls:=.type "reversed",dict:=none,data:=.fields #[.ref t,rawInt i],slots:=#[]}
theorem oH.at {t:Addr} {i:Int} (x:oH h a t i) (k:∀o,h.get? a=some o->h'.get? a=some o):oH h' a t i:=k _ x
theorem D5 (t:Addr) (items:Array Value) (hz:(items.size:Int) < 2 ^ 63) :Meets (Builtin.«reversed.__new__» ⟨[.type "reversed",.ref t],[]⟩) (fun aa R s=>IsTup s.heap t items∧
  ∀tk,R (.ok (.ret (.ref s.heap.objs.size))) {s with heap:=s.heap.push {cls:=.type "reversed",data:=.fields #[.ref t,rawInt ((items.size:Int) - 1)]},toks:=tk}):=
 .of_wp λprog w A R s h=>by
  unfold Builtin.«reversed.__new__»;refine YY (wpAny_of_eq (newClass_reversed _) ?_)
  try dsimp only
  refine YY (wpAny_of_eq (a:=()) (by first|rfl|kernel_rfl) ?_);refine YY (wpAny_of_eq (a:=()) (by first|rfl|kernel_rfl) ?_)
  try dsimp only
  refine YY (wpAny_specialOf h.1.typeIs um ?_)
  try dsimp only
  refine YY ?_;refine YY (wpAny_isInstance h.1.typeIs vN ?_);refine YY (wpAny_specialOf h.1.typeIs slot_tuple_getitem.lookup ?_);refine wpAny_ite_true rfl ?_;refine YU ?_;refine wpAny_ite_false rfl ?_;refine YY (len_tuple h.1 hz ?_);refine YY (wpAny_of_eq (a:=some (items.size:Int)) rfl ?_);refine YY ?_;show wpAny _ _ (newObj (.type "reversed") (.fields #[.ref t,rawInt ((items.size:Int) - 1)])) _ _ _
  exact YV (YU ⟨_,rfl,h.2 _⟩)
theorem Rv.next {prog:Program} {w:World} {it t:Addr} {x:Value} {Q:Option Value->Shared->Prop} (de:oH s.heap it t (i:Int)) (ht:IsTup s.heap t items) (hx:items[i]? = some x) (hz:(items.size:Int)<2 ^ 63)
  (hQ:∀h' tk,oH h' it t ((i:Int)-1)->Heap.SameBut it s.heap h'->Q (some x) {s with heap:=h',toks:=tk}):wpAny (model prog w) A (pyNext (.ref it)) Q E s:=by
 have ho:=de;unfold pyNext;refine YY (wpAny_attempt (wpAny_callSpecial?_slot (name:=Str.ofString "__next__") (⟨_,ho,rfl⟩) dg (wpAny_call_entry dg (⟨_,ho,rfl⟩) ik ?_ (jh _))));show wpAny _ _ (field (.ref it) 0 >>= _) _ _ _
 refine YY (YX ho rfl (x:=.ref t) rfl ?_);refine YY (YX ho rfl (x:=rawInt (i:Int)) rfl ?_);refine wpAny_ite_false (Y6 (Int.not_lt.mpr (ZU i))) ?_;refine YY (wpAny_specialOf ht.typeIs slot_tuple_getitem.lookup ?_);refine wpAny_ite_false rfl ?_;refine YY (wpAny_mkInt ?_);refine YY (wpAny_attempt (getItem_tuple (s:= {s with toks:=s.toks+1}) (j:=i) ht (bC [i] [] 1 (.le (.g (.c 9223372036854775808)) (.n (.v 0))) [] rfl) (bC [i,items.size] [] 1 (.le (.a (.n (.v 0)) (.c 1)) (.c 9223372036854775808)) [(1,.le (.a (.n (.v 1)) (.c 1)) (.c 9223372036854775808)),(1,.nle (.a (.v 0) (.c 1)) (.v 1))] rfl hz ((Array.getElem?_eq_some_iff.mp hx).1)) ?_ hx ?_))
 .show(if (decide (0<=if (i:Int)<0 then(i:Int)+items.size else i)&&decide ((if (i:Int)<0 then(i:Int)+items.size else i)<items.size))=true then some (if (i:Int)<0 then(i:Int)+items.size else i).toNat else none)=some i
  rw[Y1 (show ¬(i:Int)<0 by exact(λpA=>(jY [i] [] [(1,.le (.a (.n (.v 0)) (.c 1)) (.c 0))] rfl pA)))];refine Er (Y0 (by simp[((Array.getElem?_eq_some_iff.mp hx).1)])) ?_;rfl
 exact YY (YX (s:= {s with toks:=s.toks+1}) ho rfl (x:=rawInt (i:Int)) rfl (YY (YT (s:= {s with toks:=s.toks+1}) ho (by simp) λh' h1 h2=>YU ⟨x,rfl,YU (hQ h' _ h1 h2)⟩)))
theorem Rv.last {prog:Program} {w:World} {it t:Addr} {Q:Option Value->Shared->Prop} (hh:A.handled=none) (de:oH s.heap it t (-1))
  (hQ:∀h',Heap.ExtBut it s.heap h'->Q none {s with heap:=h'}):wpAny (model prog w) A (pyNext (.ref it)) Q E s:=by
 have ho:=de;unfold pyNext;refine YY (wpAny_attempt (wpAny_callSpecial?_slot (name:=Str.ofString "__next__") (⟨_,ho,rfl⟩) dg (wpAny_call_entry dg (⟨_,ho,rfl⟩) ik ?_ (jh _))));show wpAny _ _ (field (.ref it) 0 >>= _) _ _ _
 refine YY (YX ho rfl (x:=.ref t) rfl ?_);refine YY (YX ho rfl (x:=rawInt (-1)) rfl ?_);refine wpAny_ite_true rfl ?_;refine YY (wpAny_rule (YY ?_));refine YY (YT ho (by simp) λh₁ h1 s1=>?_);refine YT (s:= {s with heap:=h₁}) h1 (by simp) λcy h2 s2=>?_
 refine YY (sI (s:= {s with heap:=cy}) hh fun h' e k x=>?_);exact aX x fun o x=>(YY (wpAny_isInstance (T:="StopIteration") (b:=true) ⟨o,x.1,x.2⟩ isSubtype_stop (YU (hQ _ fun b o n e=>k b o (s2.extBut b o n (s1.extBut b o n e))))))
theorem Rv.iter {prog:Program} {w:World} {it t:Addr} {i:Int} {Q:Value->Shared->Prop} (de:oH s.heap it t i) (h:Q (.ref it) s):wpAny (model prog w) A (pyIter (.ref it)) Q E s:=by
 have hT:s.TypeIs (.ref it) "reversed":=⟨_,de,rfl⟩
 refine wpAny_pyIter_slot hT iQ (wpAny_call_entry iQ hT lN ?_ (oA _));exact YU ⟨_,rfl,"reversed",_,hT,dg.lookup,h⟩
theorem BA {prog:Program} {w:World} {t:Addr} {Q:Value->Shared->Prop} (ht:IsTup s.heap t items) (hz:(items.size:Int)<2 ^ 63)
  (h:∀tk,Q (.ref s.heap.objs.size) {s with heap:=s.heap.push {cls:=.type "reversed",data:=.fields #[.ref t,rawInt ((items.size:Int) - 1)]},toks:=tk}) :wpAny (model prog w) A (call (.type "reversed") [.ref t]) Q E s:=
 callType_new vo (by decide) (F.typeCall_reversed_1 _) (F.newCall_reversed_1 _) (λobj=>F.args_object_init_2 obj _) F.entry_reversed_new (D5 t items hz) ⟨ht,λtk=>⟨⟨_,Z1 _ rfl,rfl⟩,h tk⟩⟩
theorem Walks.rv {prog:Program} {w:World} (hh:A.handled=none) (I t:Addr) (df:t≠I) (items:Array Value) (hz:(items.size:Int)<2 ^ 63):
  Walks prog w A I [I,t] [I] items.size (λi v=>items[items.size-1-i]? = some v) (λi h=>i<=items.size/\oH h I t ((items.size:Int)-1-(i:Int))/\IsTup h t items) where
 sub:=λb hb=>by simp at hb;simp[hb]
 frame:=λaa aA bF x hk=>⟨x.1,x.2.1.at λo e=>hk I (by simp) o e,let ⟨o,e,r⟩:=x.2.2;⟨o,hk t (by simp) o e,r⟩⟩
 item:=λi s Q E hi x hQ=>by
  have de:=x.2.1;rw[show(items.size:Int)-1-(i:Int)=((items.size-1-i:Nat):Int) by exact(ZX (bC [items.size,i,items.size-(1:Nat)-i,items.size-(1:Nat)] [] 1 (.le (.s (.s (.n (.v 0)) (.c 1)) (.n (.v 1))) (.n (.v 2))) [(-1,.neq (.a (.v 2) (.v 1)) (.v 3)),(-1,.neq (.a (.v 3) (.c 1)) (.v 0))] rfl (Zd (n:=items.size-(1:Nat)) (m:=i) (bC [i,items.size-(1:Nat),items.size] [] 1 (.nle (.v 0) (.v 1)) [(1,.nle (.a (.v 0) (.c 1)) (.v 2)),(-1,.neq (.a (.v 1) (.c 1)) (.v 2))] rfl hi (Zd (n:=items.size) (m:=1) (bC [items.size,i] [] 1 (.nle (.c 1) (.v 0)) [(1,.nle (.a (.v 1) (.c 1)) (.v 0))] rfl hi)))) (Zd (n:=items.size) (m:=1) (bC [items.size,i] [] 1 (.nle (.c 1) (.v 0)) [(1,.nle (.a (.v 1) (.c 1)) (.v 0))] rfl hi))) (bC [items.size-(1:Nat)-i,items.size,i,items.size-(1:Nat)] [] 1 (.le (.n (.v 0)) (.s (.s (.n (.v 1)) (.c 1)) (.n (.v 2)))) [(1,.neq (.a (.v 0) (.v 2)) (.v 3)),(1,.neq (.a (.v 3) (.c 1)) (.v 1))] rfl (Zd (n:=items.size-(1:Nat)) (m:=i) (bC [i,items.size-(1:Nat),items.size] [] 1 (.nle (.v 0) (.v 1)) [(1,.nle (.a (.v 0) (.c 1)) (.v 2)),(-1,.neq (.a (.v 1) (.c 1)) (.v 2))] rfl hi (Zd (n:=items.size) (m:=1) (bC [items.size,i] [] 1 (.nle (.c 1) (.v 0)) [(1,.nle (.a (.v 1) (.c 1)) (.v 0))] rfl hi)))) (Zd (n:=items.size) (m:=1) (bC [items.size,i] [] 1 (.nle (.c 1) (.v 0)) [(1,.nle (.a (.v 1) (.c 1)) (.v 0))] rfl hi))))]at de;have hx:items[items.size-1-i]? = some (items[items.size-1-i]'(bC [items.size-(1:Nat)-i,items.size,i,items.size-(1:Nat)] [] 1 (.nle (.a (.v 0) (.c 1)) (.v 1)) [(1,.neq (.a (.v 0) (.v 2)) (.v 3)),(1,.neq (.a (.v 3) (.c 1)) (.v 1))] rfl (Zd (n:=items.size-(1:Nat)) (m:=i) (bC [i,items.size-(1:Nat),items.size] [] 1 (.nle (.v 0) (.v 1)) [(1,.nle (.a (.v 0) (.c 1)) (.v 2)),(-1,.neq (.a (.v 1) (.c 1)) (.v 2))] rfl hi (Zd (n:=items.size) (m:=1) (bC [items.size,i] [] 1 (.nle (.c 1) (.v 0)) [(1,.nle (.a (.v 1) (.c 1)) (.v 0))] rfl hi)))) (Zd (n:=items.size) (m:=1) (bC [items.size,i] [] 1 (.nle (.c 1) (.v 0)) [(1,.nle (.a (.v 1) (.c 1)) (.v 0))] rfl hi)))):=Array.getElem?_eq_getElem (by exact(bC [items.size-(1:Nat)-i,items.size,i,items.size-(1:Nat)] [] 1 (.nle (.a (.v 0) (.c 1)) (.v 1)) [(1,.neq (.a (.v 0) (.v 2)) (.v 3)),(1,.neq (.a (.v 3) (.c 1)) (.v 1))] rfl (Zd (n:=items.size-(1:Nat)) (m:=i) (bC [i,items.size-(1:Nat),items.size] [] 1 (.nle (.v 0) (.v 1)) [(1,.nle (.a (.v 0) (.c 1)) (.v 2)),(-1,.neq (.a (.v 1) (.c 1)) (.v 2))] rfl hi (Zd (n:=items.size) (m:=1) (bC [items.size,i] [] 1 (.nle (.c 1) (.v 0)) [(1,.nle (.a (.v 1) (.c 1)) (.v 0))] rfl hi)))) (Zd (n:=items.size) (m:=1) (bC [items.size,i] [] 1 (.nle (.c 1) (.v 0)) [(1,.nle (.a (.v 1) (.c 1)) (.v 0))] rfl hi))));refine Rv.next de x.2.2 hx hz λh' tk pQ J9=>?_
  rw[show((items.size-1-i:Nat):Int)-1=(items.size:Int)-1-((i+1:Nat):Int) by exact(ZX (bC [items.size-(1:Nat)-i,items.size,i,items.size-(1:Nat)] [] 1 (.le (.s (.n (.v 0)) (.c 1)) (.s (.s (.n (.v 1)) (.c 1)) (.n (.a (.v 2) (.c 1))))) [(1,.neq (.a (.v 0) (.v 2)) (.v 3)),(1,.neq (.a (.v 3) (.c 1)) (.v 1))] rfl (Zd (n:=items.size-(1:Nat)) (m:=i) (bC [i,items.size-(1:Nat),items.size] [] 1 (.nle (.v 0) (.v 1)) [(1,.nle (.a (.v 0) (.c 1)) (.v 2)),(-1,.neq (.a (.v 1) (.c 1)) (.v 2))] rfl hi (Zd (n:=items.size) (m:=1) (bC [items.size,i] [] 1 (.nle (.c 1) (.v 0)) [(1,.nle (.a (.v 1) (.c 1)) (.v 0))] rfl hi)))) (Zd (n:=items.size) (m:=1) (bC [items.size,i] [] 1 (.nle (.c 1) (.v 0)) [(1,.nle (.a (.v 1) (.c 1)) (.v 0))] rfl hi))) (bC [items.size,i,items.size-(1:Nat)-i,items.size-(1:Nat)] [] 1 (.le (.s (.s (.n (.v 0)) (.c 1)) (.n (.a (.v 1) (.c 1)))) (.s (.n (.v 2)) (.c 1))) [(-1,.neq (.a (.v 2) (.v 1)) (.v 3)),(-1,.neq (.a (.v 3) (.c 1)) (.v 0))] rfl (Zd (n:=items.size-(1:Nat)) (m:=i) (bC [i,items.size-(1:Nat),items.size] [] 1 (.nle (.v 0) (.v 1)) [(1,.nle (.a (.v 0) (.c 1)) (.v 2)),(-1,.neq (.a (.v 1) (.c 1)) (.v 2))] rfl hi (Zd (n:=items.size) (m:=1) (bC [items.size,i] [] 1 (.nle (.c 1) (.v 0)) [(1,.nle (.a (.v 1) (.c 1)) (.v 0))] rfl hi)))) (Zd (n:=items.size) (m:=1) (bC [items.size,i] [] 1 (.nle (.c 1) (.v 0)) [(1,.nle (.a (.v 1) (.c 1)) (.v 0))] rfl hi))))]at pQ;exact hQ _ h' tk hx ⟨hi,pQ,x.2.2.extBut J9.extBut df⟩ λb o hb eo=>J9.extBut b o (λh=>hb (by simp[h])) eo
 done:=λs Q E x hQ=>by
  have de:=x.2.1;rw[show(items.size:Int)-1-(items.size:Int) = -1 by exact(ZX (bC [items.size] [] 1 (.le (.s (.s (.n (.v 0)) (.c 1)) (.n (.v 0))) (.g (.c 1))) [] rfl) (bC [items.size] [] 1 (.le (.g (.c 1)) (.s (.s (.n (.v 0)) (.c 1)) (.n (.v 0)))) [] rfl))]at de;exact Rv.last hh de λh' Ov=>hQ h' s.toks λb o hb eo=>Ov b o (λh=>hb (by simp[h])) eo
 self:=λaa aA bF gy x hQ=>Rv.iter x.2.1 hQ
end Mv
end
variable {r:Mv.Rv} {l:Mv.Loc} {c:Prop} {b:Bool} {x:PySem.Str} {rs:List Mv.Rv} {fr ax:Mv.Fm} {ss aK args:List Mv.Slot} {tp:Mv.Tape} {t:Mv.Tgt} {ay xs b8:List Mv.Ex} {v:PySem.Value} {d:PySem.DefRec} {y:Mv.Lay} {o:Mv.Cm} {z xa xb:Mv.Ex} {out:Except PySem.Str Mv.Rv×Mv.Fm} {iter:PySem.Expr}
section
namespace Lq
open PySem Mv
noncomputable abbrev aj (n:Int):Mv.Ex:=.lit (.int n)
noncomputable abbrev af (n:Nat):Mv.Ex:=.var n
noncomputable abbrev S (l:List Nat):D:=.str ⟨l.toArray⟩
noncomputable abbrev aJ:Str:=⟨#[72,97,108,102,69,114,114,111,114]⟩
noncomputable abbrev ao:Str:=⟨#[78,111,78,117,109,98,101,114]⟩
noncomputable abbrev aL:Str:=⟨#[78,111,76,105,115,116]⟩
noncomputable abbrev aE:Str:=⟨#[78,111,70,105,114,115,116]⟩
noncomputable abbrev aO:Str:=⟨#[78,111,68,111,119,110]⟩
noncomputable abbrev aC:Str:=⟨#[66,121,78,111,117,103,104,116]⟩
noncomputable abbrev aD:Str:=⟨#[84,111,111,71,114,101,97,116]⟩
noncomputable abbrev aB:Str:=⟨#[84,111,111,76,111,110,103]⟩
noncomputable abbrev aU:Str:=⟨#[78,111,116,75,101,112,116]⟩
noncomputable abbrev bc:Str:=⟨#[78,111,84,101,120,116]⟩
noncomputable def A6:D:=(.int 1000000000000000000)
noncomputable def rJ:D:=(.int 50)
noncomputable def jF:D:=(.tuple [(S [100,111,119,110]),(S [102,105,114,115,116]),(S [114,101,115,116]),(S [101,109,112,116,121])])
noncomputable def pX:Fn:=⟨2,5,
  [.iff (.cmp .lt (af 1) (aj 1)) [.ret (.neg (aj 1))] [],
  .iff (.not (.bi (.isi .tup) [af 0])) [.asg (.one 2) (.and [.bi (.isi .int) [af 0],.not (.bi (.isi .bool) [af 0]),.cmp2 .lt .lt (.neg (.gl 0)) (af 0) (.gl 0)]),
   .ret (.ite (af 2) (.op2 .sub (af 1) (aj 1)) (.neg (aj 1)))] [],
  .asg (.one 3) (.op2 .sub (af 1) (aj 1)),
  .for_ (.one 4) .seq [af 0] [.asg (.one 3) (.call 0 [af 4,af 3]),
   .iff (.cmp .lt (af 3) (aj 0)) [.ret (.neg (aj 1))] []] [4],
  .ret (af 3)],0,[]⟩
noncomputable def rQ:Fn:=⟨1,1,
  [.ret (.cmp .ge (.call 0 [af 0,.gl 1]) (aj 0))],0,[]⟩
noncomputable def xQ:Fn:=⟨1,1,
  [.iff (.cmp .eq (af 0) (.lit (S [78,111,78,117,109,98,101,114]))) [.raise ao] [],
  .iff (.cmp .eq (af 0) (.lit (S [78,111,76,105,115,116]))) [.raise aL] [],
  .iff (.cmp .eq (af 0) (.lit (S [78,111,70,105,114,115,116]))) [.raise aE] [],
  .iff (.cmp .eq (af 0) (.lit (S [78,111,68,111,119,110]))) [.raise aO] [],
  .iff (.cmp .eq (af 0) (.lit (S [66,121,78,111,117,103,104,116]))) [.raise aC] [],
  .raise aD],0,[]⟩
noncomputable def uU:Fn:=⟨1,1,
  [.iff (.not (.call 1 [af 0])) [.raise aD] [],
  .ret (af 0)],0,[]⟩
noncomputable def lL:Fn:=⟨3,3,
  [.iff (.or [.bi (.isi .tup) [af 1],.bi (.isi .tup) [af 2]]) [.raise ao] [],
  .iff (.cmp .eq (af 0) (.lit (S [112,108,117,115]))) [.ret (.op2 .add (af 1) (af 2))] [],
  .iff (.cmp .eq (af 0) (.lit (S [109,105,110,117,115]))) [.ret (.op2 .sub (af 1) (af 2))] [],
  .iff (.cmp .eq (af 0) (.lit (S [116,105,109,101,115]))) [.ret (.op2 .mul (af 1) (af 2))] [],
  .iff (.cmp .eq (af 0) (.lit (S [108,101,115,115]))) [.ret (.bi .int [.cmp .lt (af 1) (af 2)])] [],
  .iff (.cmp .eq (af 2) (aj 0)) [.raise aC] [],
  .ret (.op2 .fdiv (af 1) (af 2))],0,[]⟩
noncomputable def Fj:Fn:=⟨1,1,
  [.iff (.bi (.isi .tup) [af 0]) [.raise ao] [],
  .iff (.cmp .lt (af 0) (aj 1)) [.raise aO] [],
  .ret (.op2 .sub (af 0) (aj 1))],0,[]⟩
noncomputable def pY:Fn:=⟨2,2,
  [.iff (.not (.bi (.isi .tup) [af 1])) [.raise aL] [],
  .iff (.cmp .eq (af 0) (.lit (S [101,109,112,116,121]))) [.ret (.bi .int [.cmp .eq (.bi .len [af 1]) (aj 0)])] [],
  .iff (.cmp .eq (.bi .len [af 1]) (aj 0)) [.raise aE] [],
  .iff (.cmp .eq (af 0) (.lit (S [102,105,114,115,116]))) [.ret (.idx (af 1) (aj 0))] [],
  .ret (.slc (af 1) (aj 1) (.lit .none))],0,[]⟩
noncomputable def yd:Fn:=⟨2,2,
  [.iff (.not (.bi (.isi .tup) [af 1])) [.raise aL] [],
  .ret (.op2 .add (.tup [af 0]) (af 1))],0,[]⟩
noncomputable def Fk:Fn:=⟨2,2,
  [.iff (.cmp .eq (af 0) (.lit (S [108,105,115,116]))) [.ret (.call 3 [.bi .tuple [af 1]])] [],
  .iff (.cmp .eq (af 0) (.lit (S [100,111,119,110]))) [.ret (.call 5 [.idx (af 1) (aj 0)])] [],
  .iff (.cmp .isin (af 0) (.gl 2)) [.ret (.call 6 [af 0,.idx (af 1) (aj 0)])] [],
  .iff (.cmp .eq (af 0) (.lit (S [115,97,109,101]))) [.ret (.bi .int [.cmp .eq (.idx (af 1) (aj 0)) (.idx (af 1) (aj 1))])] [],
  .iff (.cmp .eq (af 0) (.lit (S [106,111,105,110]))) [.ret (.call 3 [.call 7 [(.idx (af 1) (aj 0)),(.idx (af 1) (aj 1))]])] [],
  .ret (.call 3 [.call 4 [af 0,(.idx (af 1) (aj 0)),(.idx (af 1) (aj 1))]])],0,[]⟩
noncomputable def IU:Fn:=⟨3,8,
  [.new 36 [3,4,5,6,7] [af 0,af 2] [.mst 37 [3,4,5,6,7] [] [.idx (.idx (af 0) (aj 0)) (aj 1),.idx (.idx (af 0) (aj 0)) (aj 2),af 1],
   .whl (.cmp .nel (.pl (.var 6)) (.list [])) [.mst 42 [3,4,5,6,7] [5] []] [],
   .ret (.idx (.pl (.var 7)) (aj 0))]],0,[]⟩
noncomputable def p5:Fn:=⟨2,2,
  [.iff (.cmp .lt (af 1) (.bi .len [af 0])) [.ret (.idx (af 0) (af 1))] [],
  .ret (aj 0)],0,[]⟩
noncomputable def xZ:Fn:=⟨1,2,
  [.asg (.one 1) (.op2 .mod (.op2 .add (.op2 .mul (af 0) (aj 48271)) (aj 11)) (aj 2147483647)),
  .ret (.op2 .mod (.op2 .mul (af 1) (af 1)) (aj 2147483629))],0,[]⟩
noncomputable def uP:Fn:=⟨1,3,
  [.asg (.one 1) (.list [aj 0,aj 1,aj 2,aj 3,aj 5,.neg (aj 1),.neg (aj 4),.tup [],.tup [aj 1],.tup [aj 2,aj 0],.tup [aj 1,aj 2,aj 3],.tup [(.tup []),aj 1],.tup [(.tup [aj 1,aj 2]),(.tup [aj 3])],.tup [aj 4,(.tup [aj 5,(.tup [aj 6])])]]),
  .iff (.cmp .eq (.op2 .mod (af 0) (aj 16)) (aj 14)) [.ret (.op2 .add (.op2 .sub (.op2 .mod (.op2 .fdiv (af 0) (aj 16)) (.op2 .sub (.op2 .mul (aj 2) (.op2 .pow (aj 10) (aj 18))) (aj 1))) (.op2 .pow (aj 10) (aj 18))) (aj 1))] [],
  .iff (.cmp .eq (.op2 .mod (af 0) (aj 16)) (aj 15)) [.ret (.bi .tuple [.comp (.op2 .mod (.op2 .fdiv (af 0) (aj 16)) (.op2 .add (af 2) (aj 2))) (.one 2) .range [(.op2 .mod (.op2 .fdiv (af 0) (aj 16)) (aj 9))] []])] [],
  .ret (.idx (af 1) (.op2 .mod (af 0) (aj 16)))],0,[]⟩
noncomputable def xY:Fn:=⟨2,3,
  [.iff (.bi (.isi .tup) [af 1]) [.iff (.or [.not (.bi (.isi .tup) [af 0]),.cmp .ne (.bi .len [af 0]) (.bi .len [af 1])]) [.ret (.lit (.bool false))] [],
   .for_ (.one 2) .range [.bi .len [af 1]] [.iff (.not (.call 13 [.idx (af 0) (af 2),.idx (af 1) (af 2)])) [.ret (.lit (.bool false))] []] [2],
   .ret (.lit (.bool true))] [],
  .iff (.bi (.isi .str) [af 1]) [.ret (.and [.bi (.isi .str) [af 0],.cmp .eq (af 0) (af 1)])] [],
  .ret (.and [.bi (.isi .int) [af 0],.not (.bi (.isi .bool) [af 0]),.cmp .eq (af 0) (af 1)])],0,[]⟩
noncomputable def rN:Fn:=⟨1,2,
  [.iff (.bi (.isi .tup) [af 0]) [.ret (.op2 .add (aj 1) (.bi .sum [.comp (.call 14 [af 1]) (.one 1) .seq [af 0] []]))] [],
  .ret (aj 1)],0,[]⟩
noncomputable def Be:Fn:=⟨1,1,
  [.iff (.bi (.isi .tup) [af 0]) [.ret (.tup [.cmp .le (.call 14 [af 0]) (aj 50),(.idx (.list [af 0,.lit (S [84,111,111,71,114,101,97,116])]) (.bi .int [.cmp .gt (.call 14 [af 0]) (aj 50)]))])] [],
  .ret (.tup [.cmp .lt (.bi .abs [af 0]) (.op2 .pow (aj 10) (aj 18)),(.idx (.list [af 0,.lit (S [84,111,111,71,114,101,97,116])]) (.bi .int [.cmp .ge (.bi .abs [af 0]) (.op2 .pow (aj 10) (aj 18))]))])],0,[]⟩
noncomputable def p4:Fn:=⟨3,3,
  [.iff (.or [.bi (.isi .tup) [af 1],.bi (.isi .tup) [af 2]]) [.ret (.tup [.lit (.bool false),.lit (S [78,111,78,117,109,98,101,114])])] [],
  .iff (.cmp .eq (af 0) (.lit (S [111,118,101,114]))) [.iff (.cmp .eq (af 2) (aj 0)) [.ret (.tup [.lit (.bool false),.lit (S [66,121,78,111,117,103,104,116])])] [],
   .ret (.call 15 [.op2 .fdiv (af 1) (af 2)])] [],
  .iff (.cmp .eq (af 0) (.lit (S [108,101,115,115]))) [.ret (.tup [.lit (.bool true),.bi .int [(.cmp .lt (af 1) (af 2))]])] [],
  .ret (.call 15 [.dsel [⟨#[112,108,117,115]⟩,⟨#[109,105,110,117,115]⟩,⟨#[116,105,109,101,115]⟩] [(.op2 .add (af 1) (af 2)),(.op2 .sub (af 1) (af 2)),(.op2 .mul (af 1) (af 2))] 0])],0,[]⟩
noncomputable def uQ:Fn:=⟨2,2,
  [.iff (.cmp .eq (af 0) (.lit (S [100,111,119,110]))) [.iff (.bi (.isi .tup) [af 1]) [.ret (.tup [.lit (.bool false),.lit (S [78,111,78,117,109,98,101,114])])] [],
   .ret (.tup [.cmp .gt (af 1) (aj 0),.idx (.list [(.op2 .sub (af 1) (aj 1)),(.lit (S [78,111,68,111,119,110]))]) (.bi .int [(.cmp .le (af 1) (aj 0))])])] [],
  .iff (.not (.bi (.isi .tup) [af 1])) [.ret (.tup [.lit (.bool false),.lit (S [78,111,76,105,115,116])])] [],
  .iff (.cmp .eq (af 0) (.lit (S [101,109,112,116,121]))) [.ret (.tup [.lit (.bool true),.bi .int [(.cmp .eq (.bi .len [af 1]) (aj 0))]])] [],
  .iff (.cmp .eq (.bi .len [af 1]) (aj 0)) [.ret (.tup [.lit (.bool false),.lit (S [78,111,70,105,114,115,116])])] [],
  .iff (.cmp .eq (af 0) (.lit (S [102,105,114,115,116]))) [.ret (.tup [.lit (.bool true),.idx (af 1) (aj 0)])] [],
  .ret (.tup [.lit (.bool true),.slc (af 1) (aj 1) (.lit .none)])],0,[]⟩
noncomputable def yb:Fn:=⟨2,2,
  [.iff (.cmp .eq (af 0) (.lit (S [108,105,115,116]))) [.ret (.call 15 [.bi .tuple [af 1]])] [],
  .iff (.cmp .eq (af 0) (.lit (S [115,97,109,101]))) [.ret (.tup [.lit (.bool true),.bi .int [(.cmp .eq (.idx (af 1) (aj 0)) (.idx (af 1) (aj 1)))]])] [],
  .iff (.cmp .isin (af 0) (.tup [.lit (S [102,105,114,115,116]),.lit (S [114,101,115,116]),.lit (S [101,109,112,116,121]),.lit (S [100,111,119,110])])) [.ret (.call 17 [af 0,.idx (af 1) (aj 0)])] [],
  .iff (.cmp .ne (af 0) (.lit (S [106,111,105,110]))) [.ret (.call 16 [af 0,.idx (af 1) (aj 0),.idx (af 1) (aj 1)])] [],
  .iff (.not (.bi (.isi .tup) [.idx (af 1) (aj 1)])) [.ret (.tup [.lit (.bool false),.lit (S [78,111,76,105,115,116])])] [],
  .ret (.call 15 [.op2 .add (.tup [(.idx (af 1) (aj 0))]) (.idx (af 1) (aj 1))])],0,[]⟩
noncomputable def xW:Fn:=⟨4,10,
  [.iff (.cmp .eq (.idx (af 1) (aj 0)) (.lit (S [118,97,108,117,101]))) [.ret (.tup [.lit (.bool true),.idx (af 1) (aj 1)])] [],
  .iff (.cmp .eq (.idx (af 1) (aj 0)) (.lit (S [110,97,109,101]))) [.ret (.tup [.lit (.bool true),.idx (af 2) (.idx (af 1) (aj 1))])] [],
  .iff (.cmp .eq (.idx (af 1) (aj 0)) (.lit (S [114,101,102,117,115,101]))) [.ret (.tup [.lit (.bool false),.idx (af 1) (aj 1)])] [],
  .iff (.cmp .eq (.idx (af 1) (aj 0)) (.lit (S [105,102]))) [.asg (.one 4) (.call 19 [af 0,.idx (af 1) (aj 1),af 2,.pl (.var 3)]),
   .iff (.not (.idx (af 4) (aj 0))) [.ret (af 4)] [],
   .iff (.bi (.isi .tup) [.idx (af 4) (aj 1)]) [.ret (.tup [.lit (.bool false),.lit (S [78,111,78,117,109,98,101,114])])] [],
   .ret (.call 19 [af 0,(.idx (af 1) (.op2 .add (aj 2) (.bi .int [.cmp .eq (.idx (af 4) (aj 1)) (aj 0)]))),af 2,.pl (.var 3)])] [],
  .asg (.one 5) (.list []),
  .for_ (.one 6) .seq [.idx (af 1) (aj 2)] [.asg (.one 7) (.call 19 [af 0,af 6,af 2,.pl (.var 3)]),
   .iff (.not (.idx (af 7) (aj 0))) [.ret (af 7)] [],
   .app (.var 5) (.idx (af 7) (aj 1))] [6,7],
  .iff (.cmp .eq (.idx (af 1) (aj 0)) (.lit (S [100,111]))) [.ret (.call 18 [.idx (af 1) (aj 1),af 5])] [],
  .setI (.var 3) (aj 0) (.op2 .add (.idx (.pl (.var 3)) (aj 0)) (aj 1)),
  .iff (.cmp .gt (.idx (.pl (.var 3)) (aj 0)) (.idx (.pl (.var 3)) (aj 1))) [.ret (.tup [.lit (.bool false),.lit (S [84,111,111,76,111,110,103])])] [],
  .asg (.one 8) (.idx (.comp (af 9) (.one 9) .seq [af 0] [.cmp .eq (.idx (af 9) (aj 0)) (.idx (af 1) (aj 1))]) (aj 0)),
  .ret (.call 19 [af 0,.idx (af 8) (aj 2),.bi .dzip [(.idx (af 8) (aj 1)),(.pl (.var 5))],.pl (.var 3)])],0,[]⟩
noncomputable def Bc:Fn:=⟨3,3,
  [.ret (.callw 19 [af 0,.idx (.idx (af 0) (aj 0)) (aj 2),.bi .dzip [(.idx (.idx (af 0) (aj 0)) (aj 1)),af 1]] (.list [aj 0,af 2]))],0,[]⟩
noncomputable def xV:Fn:=⟨1,2,
  [.asg (.one 1) (.op2 .add (.op2 .mul (.list [.lit (S [78,111,78,117,109,98,101,114])]) (.bi .int [.isx 0 [ao] [aJ,aL,aE,aO,aC,aD,aB,aU,bc]])) (.op2 .mul (.list [.lit (S [78,111,76,105,115,116])]) (.bi .int [.isx 0 [aL] [aJ,ao,aE,aO,aC,aD,aB,aU,bc]]))),
  .asg (.one 1) (.op2 .add (.op2 .add (af 1) (.op2 .mul (.list [.lit (S [78,111,70,105,114,115,116])]) (.bi .int [.isx 0 [aE] [aJ,ao,aL,aO,aC,aD,aB,aU,bc]]))) (.op2 .mul (.list [.lit (S [78,111,68,111,119,110])]) (.bi .int [.isx 0 [aO] [aJ,ao,aL,aE,aC,aD,aB,aU,bc]]))),
  .asg (.one 1) (.op2 .add (.op2 .add (af 1) (.op2 .mul (.list [.lit (S [66,121,78,111,117,103,104,116])]) (.bi .int [.isx 0 [aC] [aJ,ao,aL,aE,aO,aD,aB,aU,bc]]))) (.op2 .mul (.list [.lit (S [84,111,111,71,114,101,97,116])]) (.bi .int [.isx 0 [aD] [aJ,ao,aL,aE,aO,aC,aB,aU,bc]]))),
  .asg (.one 1) (.op2 .add (.op2 .add (af 1) (.op2 .mul (.list [.lit (S [84,111,111,76,111,110,103])]) (.bi .int [.isx 0 [aB] [aJ,ao,aL,aE,aO,aC,aD,aU,bc]]))) (.op2 .mul (.list [.lit (S [111,116,104,101,114])]) (.bi .int [.isx 0 [aU,bc] [aJ,ao,aL,aE,aO,aC,aD,aB]]))),
  .iff (.or [.cmp .ne (.bi .len [af 1]) (aj 1),.not (.isx 0 [aJ,ao,aL,aE,aO,aC,aD,aB,aU,bc] [])]) [.ret (.lit (S [111,116,104,101,114]))] [],
  .ret (.idx (af 1) (aj 0))],0,[]⟩
noncomputable def Bd:Fn:=⟨3,4,
  [.try_ [.ret (.tup [.lit (.bool true),.call 9 [af 0,af 1,af 2]])] [aJ,ao,aL,aE,aO,aC,aD,aB,aU,bc] 3 [.ret (.tup [.lit (.bool false),.call 21 [(.pl (.var 3))]])]],0,[]⟩
noncomputable def uS:Fn:=⟨1,8,
  [.iff (.cmp .eq (.op2 .mod (af 0) (aj 9)) (aj 8)) [.asg (.one 1) (.list [.lit (S [105,102,115]),.lit (S [108,105,115,116,120]),.lit (S [112,108,117,115,50]),.lit (S [114,101,102,117,115,101,115]),.lit (S [114,101,115,116,101,100]),.lit (S [100,111,119,110,115]),.lit (S [115,97,109,101,49]),.lit (S [106,111,105,110,115]),.lit (S [111,118,101,114,115]),.lit (S [102,105,114,115,116,115])]),
   .asg (.one 1) (.op2 .add (af 1) (.list [.lit (S [101,109,112,116,121,120]),.lit (S [97,57])])),
   .ret (.comp (.idx (af 1) (.op2 .mod (.op2 .add (.op2 .fdiv (af 0) (aj 9)) (af 7)) (aj 12))) (.one 7) .range [aj 12] [])] [],
  .asg (.one 2) (.op2 .add (aj 1) (.op2 .mod (af 0) (aj 8))),
  .asg (.one 3) (.op2 .mod (.op2 .fdiv (af 0) (aj 8)) (af 2)),
  .asg (.one 1) (.lit (S [97,98,99,100,101,102,103,104,105,106,107,108,109,110,111,112,113,114,115,116,117,118,119,120,121,122,48,49,50,51,52,53,54,55,56,57])),
  .asg (.one 4) (.list []),
  .for_ (.one 5) .range [aj 12] [.asg (.one 6) (.idx (af 1) (.op2 .mod (.op2 .add (.op2 .fdiv (af 0) (aj 64)) (af 5)) (.idx (.list [aj 26,aj 36]) (.bi .int [.cmp .gt (af 3) (aj 0)])))),
   .app (.var 4) (.op2 .add (.op2 .add (.op2 .mul (.lit (S [109])) (af 3)) (af 6)) (.op2 .mul (.lit (S [109])) (.op2 .sub (.op2 .sub (af 2) (aj 1)) (af 3))))] [5,6],
  .ret (af 4)],0,[]⟩
noncomputable def Bf:Fn:=⟨2,3,
  [.asg (.one 2) (.list [aj 0,aj 1,aj 2,.tup [],.tup [aj 1],.tup [aj 2,aj 0],.tup [(.tup []),aj 1],aj 3]),
  .iff (.cmp .eq (af 1) (aj 1)) [.asg (.one 2) (.list [aj 3,.neg (aj 1),.tup [aj 1,aj 2],aj 0])] [],
  .iff (.cmp .eq (af 1) (aj 2)) [.asg (.one 2) (.list [.tup [aj 0,(.tup [aj 1,(.tup [aj 2])])],.neg (aj 4),aj 2,.tup []])] [],
  .ret (.idx (af 2) (.op2 .mod (af 0) (.bi .len [af 2])))],0,[]⟩
noncomputable def xX:Fn:=⟨3,7,
  [.asg (.one 3) (.op2 .mod (.op2 .fdiv (af 0) (aj 5)) (aj 8)),
  .asg (.one 4) (.call 11 [af 0]),
  .iff (.or [.cmp .eq (af 1) (.list []),.cmp .eq (af 3) (aj 0)]) [.ret (.tup [.lit (S [118,97,108,117,101]),.call 24 [af 4,(.op2 .mod (.bi .len [af 2]) (aj 3))]])] [],
  .asg (.one 5) (.tup [.lit (S [110,97,109,101]),.idx (af 1) (.op2 .mod (af 4) (.bi .len [af 1]))]),
  .iff (.cmp .lt (af 3) (aj 3)) [.ret (af 5)] [],
  .asg (.one 6) (.idx (.list [.lit (S [100,111,119,110]),.lit (S [102,105,114,115,116]),.lit (S [114,101,115,116]),.lit (S [114,101,115,116]),.lit (S [100,111,119,110])]) (.op2 .sub (af 3) (aj 3))),
  .iff (.and [.cmp .eq (af 3) (aj 7),.cmp .eq (.op2 .mod (.op2 .fdiv (af 4) (aj 7)) (aj 3)) (aj 0)]) [.ret (.tup [.lit (S [100,111]),.lit (S [114,101,115,116]),.tup [(.tup [(.lit (S [100,111])),(.lit (S [114,101,115,116])),(.tup [af 5])])]])] [],
  .ret (.tup [.lit (S [100,111]),af 6,.tup [af 5]])],0,[]⟩
noncomputable def uR:Fn:=⟨6,8,
  [.asg (.one 6) (.list []),
  .for_ (.one 7) .range [af 1] [.app (.var 6) (.call 29 [.call 11 [(.op2 .add (af 0) (.op2 .mul (aj 7919) (af 7)))],af 2,af 3,af 4,af 5])] [7],
  .ret (.bi .tuple [.pl (.var 6)])],0,[]⟩
noncomputable def yc:Fn:=⟨5,9,
  [.asg (.one 5) (.idx (af 4) (.op2 .mod (af 0) (.bi .len [af 4]))),
  .asg (.one 6) (.list []),
  .for_ (.one 7) .range [.bi .len [(.idx (af 5) (aj 1))]] [.asg (.one 8) (.call 11 [.op2 .add (af 0) (.op2 .mul (aj 7919) (af 7))]),
   .iff (.idx (.idx (af 5) (aj 2)) (af 7)) [.app (.var 6) (.call 25 [af 8,af 3,af 4])] [.app (.var 6) (.call 29 [af 8,af 1,af 2,af 3,af 4])]] [7,8],
  .ret (.tup [.lit (S [99,97,108,108]),.idx (af 5) (aj 0),.bi .tuple [(.pl (.var 6))]])],0,[]⟩
noncomputable def Fi:Fn:=⟨5,7,
  [.asg (.one 5) (.list [.lit (S [112,108,117,115]),.lit (S [109,105,110,117,115]),.lit (S [116,105,109,101,115]),.lit (S [111,118,101,114]),.lit (S [108,101,115,115]),.lit (S [115,97,109,101]),.lit (S [106,111,105,110]),.lit (S [102,105,114,115,116]),.lit (S [114,101,115,116]),.lit (S [101,109,112,116,121]),.lit (S [100,111,119,110]),.lit (S [108,105,115,116])]),
  .asg (.one 5) (.idx (af 5) (.op2 .mod (af 0) (aj 12))),
  .asg (.one 6) (aj 2),
  .iff (.cmp .isin (af 5) (.tup [.lit (S [102,105,114,115,116]),.lit (S [114,101,115,116]),.lit (S [101,109,112,116,121]),.lit (S [100,111,119,110])])) [.asg (.one 6) (aj 1)] [],
  .iff (.cmp .eq (af 5) (.lit (S [108,105,115,116]))) [.asg (.one 6) (.idx (.list [aj 0,aj 1,aj 2,aj 3,aj 8,aj 5,aj 1,aj 2]) (.op2 .mod (.op2 .fdiv (af 0) (aj 12)) (aj 8)))] [],
  .iff (.cmp .gt (af 6) (aj 3)) [.asg (.one 1) (aj 0)] [],
  .ret (.tup [.lit (S [100,111]),af 5,.call 26 [(.call 11 [af 0]),af 6,af 1,af 2,af 3,af 4]])],0,[]⟩
noncomputable def ya:Fn:=⟨5,7,
  [.asg (.one 5) (.op2 .mod (.op2 .fdiv (af 0) (aj 3)) (aj 13)),
  .asg (.one 6) (.call 11 [af 0]),
  .iff (.or [.cmp .eq (af 1) (aj 0),.cmp .lt (af 5) (aj 3)]) [.iff (.and [.cmp .ne (af 2) (.list []),.cmp .gt (.op2 .mod (af 6) (aj 4)) (aj 0)]) [.ret (.tup [.lit (S [110,97,109,101]),.idx (af 2) (.op2 .mod (.op2 .fdiv (af 6) (aj 4)) (.bi .len [af 2]))])] [],
   .ret (.tup [.lit (S [118,97,108,117,101]),.call 12 [(.op2 .fdiv (af 6) (aj 4))]])] [],
  .iff (.cmp .lt (af 5) (aj 6)) [.ret (.op2 .add (.tup [.lit (S [105,102])]) (.call 26 [af 6,aj 3,.op2 .sub (af 1) (aj 1),af 2,af 3,af 4]))] [],
  .iff (.cmp .lt (af 5) (aj 9)) [.ret (.call 28 [af 6,.op2 .sub (af 1) (aj 1),af 2,af 3,af 4])] [],
  .iff (.cmp .lt (af 5) (aj 12)) [.ret (.call 27 [af 6,.op2 .sub (af 1) (aj 1),af 2,af 3,af 4])] [],
  .ret (.tup [.lit (S [114,101,102,117,115,101]),.idx (.list [(.lit (S [78,111,78,117,109,98,101,114])),(.lit (S [78,111,76,105,115,116])),(.lit (S [78,111,70,105,114,115,116])),(.lit (S [78,111,68,111,119,110])),(.lit (S [66,121,78,111,117,103,104,116])),(.lit (S [84,111,111,71,114,101,97,116]))]) (.op2 .mod (af 6) (aj 6))])],0,[]⟩
noncomputable def uT:Fn:=⟨1,10,
  [.asg (.one 1) (.call 23 [.call 10 [af 0,aj 0]]),
  .asg (.one 2) (.list []),
  .for_ (.one 3) .range [.op2 .add (aj 1) (.op2 .mod (.call 10 [af 0,aj 1]) (aj 4))] [.asg (.one 4) (.call 10 [af 0,.op2 .add (aj 2) (af 3)]),
   .asg (.one 5) (.idx (.list [aj 1,aj 2,aj 3,aj 2,aj 0,aj 6,aj 3]) (.op2 .mod (af 4) (aj 7))),
   .asg (.one 6) (.list []),
   .for_ (.one 7) .range [af 5] [.asg (.one 8) (.cmp .eq (.op2 .mod (.op2 .fdiv (af 4) (.idx (.list [aj 7,aj 14,aj 28,aj 56,aj 112,aj 224]) (af 7))) (aj 2)) (aj 1)),
    .app (.var 6) (.and [af 8,.cmp .lt (.bi .count [(.pl (.var 6)),(.lit (.bool true))]) (aj 2)])] [7,8],
   .app (.var 2) (.tup [.idx (af 1) (af 3),(.bi .tuple [(.comp (.idx (af 1) (.op2 .mod (.op2 .add (.op2 .add (aj 2) (af 3)) (af 9)) (aj 12))) (.one 9) .range [af 5] [])]),.bi .tuple [(.pl (.var 6))]])] [3,4,5,6,7,8],
  .ret (af 2)],0,[]⟩
noncomputable def p3:Fn:=⟨2,13,
  [.asg (.one 2) (.list []),
  .for_ (.one 3) .range [.bi .len [af 1]] [.asg (.tup [4,5,6]) (.idx (af 1) (af 3)),
   .asg (.one 7) (.comp (.idx (af 5) (af 12)) (.one 12) .range [.bi .len [af 5]] [.idx (af 6) (af 12)]),
   .asg (.one 8) (.call 11 [(.op2 .add (.op2 .mul (.call 10 [af 0,.op2 .add (aj 6) (af 3)]) (aj 977)) (af 3))]),
   .asg (.one 9) (.call 29 [af 8,(.op2 .add (aj 1) (.op2 .mod (.op2 .fdiv (.call 10 [af 0,aj 10]) (.op2 .add (af 3) (aj 1))) (aj 3))),.bi .list [af 5],af 7,af 1]),
   .iff (.and [(.cmp .gt (.op2 .mod (.op2 .fdiv (.call 10 [af 0,aj 11]) (.op2 .add (af 3) (aj 1))) (aj 3)) (aj 0)),.cmp .gt (.bi .len [af 5]) (aj 0)]) [.asg (.one 10) (.call 11 [.op2 .add (af 8) (aj 31)]),
    .asg (.one 11) (.tup [.lit (S [110,97,109,101]),.idx (af 5) (.op2 .mod (af 10) (.bi .len [af 5]))]),
    .iff (.cmp .eq (.op2 .mod (.op2 .fdiv (af 10) (aj 8)) (aj 2)) (aj 1)) [.asg (.one 11) (.tup [.lit (S [100,111]),.lit (S [101,109,112,116,121]),.tup [af 11]])] [],
    .asg (.one 9) (.tup [.lit (S [105,102]),af 11,af 9,.call 29 [af 10,aj 2,(.bi .list [af 5]),af 7,af 1]])] [],
   .app (.var 2) (.tup [af 4,af 5,af 9])] [3,4,5,6,7,8,9,10,11],
  .ret (.bi .tuple [.pl (.var 2)])],0,[]⟩
noncomputable def rP:Fn:=⟨2,5,
  [.asg (.one 2) (.list []),
  .for_ (.one 3) .range [af 1] [.asg (.one 4) (.call 10 [af 0,.op2 .add (aj 12) (af 3)]),
   .app (.var 2) (.call 24 [af 4,(.op2 .mod (.op2 .add (aj 1) (.op2 .mod (.call 10 [af 0,aj 1]) (aj 4))) (aj 3))])] [3,4],
  .ret (.bi .tuple [.pl (.var 2)])],0,[]⟩
noncomputable def pZ:Fn:=⟨1,1,
  [.no],0,[]⟩
noncomputable def rO:Fn:=⟨3,10,
  [.asg (.one 3) (.call 10 [af 0,aj 20]),
  .iff (.cmp .ne (.op2 .mod (af 3) (aj 6)) (aj 1)) [.ret (.tup [af 1,af 2])] [],
  .asg (.tup [4,5,6]) (.idx (af 1) (aj 0)),
  .asg (.one 7) (.tup [.lit (S [99,97,108,108]),af 4,(.bi .tuple [.comp (.tup [(.lit (S [110,97,109,101])),af 9]) (.one 9) .seq [af 5] []])]),
  .for_ (.one 8) .range [.op2 .add (aj 1) (.op2 .mod (.op2 .fdiv (af 3) (aj 6)) (aj 17))] [.asg (.one 7) (.tup [.lit (S [100,111]),.lit (S [108,105,115,116]),.tup [af 7]])] [8],
  .ret (.tup [(.op2 .add (.list [.tup [(.lit (S [116,111,112])),af 5,af 6]]) (af 1)),(.op2 .add (.tup [.tup [(.lit (S [116,111,112])),af 5,af 7]]) (af 2))])],0,[]⟩
noncomputable def IV:Fn:=⟨1,9,
  [.asg (.one 1) (.call 30 [af 0]),
  .asg (.tup [1,2]) (.call 34 [af 0,af 1,.call 31 [af 0,af 1]]),
  .asg (.one 3) (.bi .tuple [(.comp (.call 12 [.call 10 [af 0,(.op2 .add (aj 12) (af 8))]]) (.one 8) .range [.bi .len [(.idx (.idx (af 1) (aj 0)) (aj 1))]] [])]),
  .asg (.one 4) (.op2 .mod (.call 10 [af 0,aj 15]) (aj 10)),
  .asg (.one 5) (.call 20 [af 2,af 3,af 4]),
  .for_ (.one 6) .range [aj 2] [.asg (.one 7) (.call 22 [af 2,af 3,af 4]),
   .iff (.or [.cmp .ne (.idx (af 7) (aj 0)) (.idx (af 5) (aj 0)),.not (.call 13 [(.idx (af 7) (aj 1)),(.idx (af 5) (aj 1))])]) [.ret (.lit (.bool false))] [],
   .iff (.cmp .ne (.call 22 [(.tup [.tup [(.lit (S [97])),(.tup []),(.tup [(.lit (S [99,97,108,108])),(.lit (S [97])),(.tup [])])]]),.tup [],aj 3]) (.tup [.lit (.bool false),.lit (S [84,111,111,76,111,110,103])])) [.ret (.lit (.bool false))] []] [6,7],
  .ret (.lit (.bool true))],0,[]⟩
noncomputable def xT:Fn:=⟨7,10,
  [.asg (.one 0) (.bi .dict0 []),
  .for_ (.tup [7,8,9]) .seq [af 5] [.setI (.var 0) (af 7) (.tup [af 8,af 9])] [7,8,9],
  .asg (.one 1) (af 6),
  .asg (.one 2) (aj 0),
  .asg (.one 3) (.list []),
  .asg (.one 4) (.list [])],5,[0,1,2,3,4]⟩
noncomputable def uO:Fn:=⟨8,8,
  [.app (.var 3) (.tup [.lit (S [108,111,111,107]),af 6,.bi .dzip [af 5,af 7]])],5,[]⟩
noncomputable def xS:Fn:=⟨7,9,
  [.asg (.one 7) (.idx (af 5) (aj 0)),
  .iff (.cmp .eq (af 7) (.lit (S [118,97,108,117,101]))) [.app (.var 4) (.idx (af 5) (aj 1))] [.iff (.cmp .eq (af 7) (.lit (S [110,97,109,101]))) [.app (.var 4) (.idx (af 6) (.idx (af 5) (aj 1)))] [.iff (.cmp .eq (af 7) (.lit (S [114,101,102,117,115,101]))) [.exp (.call 2 [.idx (af 5) (aj 1)])] [.iff (.cmp .eq (af 7) (.lit (S [105,102]))) [.app (.var 3) (.tup [af 7,af 5,af 6]),
      .app (.var 3) (.tup [.lit (S [108,111,111,107]),.idx (af 5) (aj 1),af 6])] [.app (.var 3) (.tup [af 7,af 5,af 6]),
      .for_ (.one 8) .rev [.idx (af 5) (aj 2)] [.app (.var 3) (.tup [.lit (S [108,111,111,107]),af 8,af 6])] [8]]]]]],5,[]⟩
noncomputable def uN:Fn:=⟨6,8,
  [.asg (.one 6) (.list []),
  .for_ (.one 7) .range [af 5] [.app (.var 6) (.pop (.var 4))] [7],
  .rev (.var 6),
  .ret (af 6)],5,[]⟩
noncomputable def rM:Fn:=⟨7,8,
  [.asg (.one 7) (.pop (.var 4)),
  .iff (.bi (.isi .tup) [af 7]) [.raise ao] [],
  .iff (.cmp .eq (af 7) (aj 0)) [.app (.var 3) (.tup [.lit (S [108,111,111,107]),.idx (af 5) (aj 3),af 6])] [.app (.var 3) (.tup [.lit (S [108,111,111,107]),.idx (af 5) (aj 2),af 6])]],5,[]⟩
noncomputable def xU:Fn:=⟨7,9,
  [.asg (.one 2) (.op2 .add (af 2) (aj 1)),
  .iff (.cmp .gt (af 2) (af 1)) [.raise aB] [],
  .asg (.tup [7,8]) (.idx (.pl (.var 0)) (af 5)),
  .mst 37 [0,1,2,3,4] [] [af 7,af 8,af 6]],5,[2]⟩
noncomputable def xR:Fn:=⟨5,8,
  [.asg (.tup [5,6,7]) (.pop (.var 3)),
  .iff (.cmp .eq (af 5) (.lit (S [108,111,111,107]))) [.mst 38 [0,1,2,3,4] [] [af 6,af 7]] [.iff (.cmp .eq (af 5) (.lit (S [105,102]))) [.mst 40 [0,1,2,3,4] [] [af 6,af 7]] [.iff (.cmp .eq (af 5) (.lit (S [100,111]))) [.app (.var 4) (.call 8 [.idx (af 6) (aj 1),.mcall 39 [0,1,2,3,4] [(.bi .len [(.idx (af 6) (aj 2))])]])] [.mst 41 [0,1,2,3,4] [2] [.idx (af 6) (aj 1),.mcall 39 [0,1,2,3,4] [(.bi .len [(.idx (af 6) (aj 2))])]]]]]],5,[2]⟩
noncomputable def P:Pr:=⟨[A6,rJ,jF],[pX,rQ,xQ,uU,lL,Fj,pY,yd,Fk,IU,p5,xZ,uP,xY,rN,Be,p4,uQ,yb,xW,Bc,xV,Bd,uS,Bf,xX,uR,yc,Fi,ya,uT,p3,rP,pZ,rO,IV,xT,uO,xS,uN,rM,xU,xR]⟩
noncomputable def nss:List (List Str):=[(["thing","room","is_number","left","part"] :List Str),
 (["thing"] :List Str),
 (["word"] :List Str),
 (["thing"] :List Str),
 (["operation","one","other"] :List Str),
 (["value"] :List Str),
 (["operation","value"] :List Str),
 (["value","other"] :List Str),
 (["operation","values"] :List Str),
 (["program","inputs","most"] :List Str),
 (["_law_script","_law_k"] :List Str),
 (["_law_pick","_law_more"] :List Str),
 (["_law_pick","_law_some"] :List Str),
 (["_law_found","_law_due","_law_k"] :List Str),
 (["_law_value_here"] :List Str),
 (["_law_value_here"] :List Str),
 (["_law_operation","_law_one","_law_other"] :List Str),
 (["_law_operation","_law_value_here"] :List Str),
 (["_law_operation","_law_values"] :List Str),
 (["_law_program_here","_law_form_here","_law_names_here","_law_count","_law_test","_law_values","_law_part","_law_one","_law_function"] :List Str),
 (["_law_program_here","_law_inputs_here","_law_most"] :List Str),
 (["_law_e","_law_words"] :List Str),
 (["_law_program_here","_law_inputs_here","_law_most","_law_e"] :List Str),
 (["_law_cell","_law_some","_law_size","_law_place","_law_found","_law_k","_law_sign"] :List Str),
 (["_law_pick","_law_way","_law_some"] :List Str),
 (["_law_pick","_law_known","_law_heads_here","_law_way","_law_more","_law_name","_law_word_here"] :List Str),
 (["_law_pick","_law_many","_law_deep","_law_names_here","_law_known","_law_heads_here","_law_found","_law_k"] :List Str),
 (["_law_pick","_law_deep","_law_names_here","_law_known","_law_heads_here","_law_head","_law_parts_here","_law_k","_law_more"] :List Str),
 (["_law_pick","_law_deep","_law_names_here","_law_known","_law_heads_here","_law_word_here","_law_many"] :List Str),
 (["_law_pick","_law_deep","_law_names_here","_law_known","_law_heads_here","_law_way","_law_more"] :List Str),
 (["_law_script","_law_names_here","_law_found","_law_k","_law_cell","_law_many","_law_wanted","_law_j","_law_known"] :List Str),
 (["_law_script","_law_heads_here","_law_program_here","_law_k","_law_name","_law_params","_law_wanted","_law_known","_law_pick","_law_body","_law_more","_law_test"] :List Str),
 (["_law_script","_law_many","_law_found","_law_k","_law_cell"] :List Str),
 (["_law_heads_here"] :List Str),
 (["_law_script","_law_heads_here","_law_program_here","_law_cell","_law_name","_law_params","_law_wanted","_law_body","_law_k"] :List Str),
 (["_law_script","_law_heads_here","_law_program_here","_law_inputs_here","_law_most","_law_due","_law_turn","_law_found"] :List Str),
 (["program","most","name","parameters","body"] :List Str),
 (["parameters","body","values"] :List Str),
 (["expression","held","word","part"] :List Str),
 (["many","found","turn"] :List Str),
 (["expression","held","test"] :List Str),
 (["name","values","parameters","body"] :List Str),
 (["word","expression","held"] :List Str)]
noncomputable def gls:List Str:=["GREAT","HEAVIEST","SINGLES"]
noncomputable def cls:List Str:=[aJ,ao,aL,aE,aO,aC,aD,aB,aU,bc]
noncomputable def sb:List (Str×List Str×List Str):=[(ao,[ao],[aJ,aL,aE,aO,aC,aD,aB,aU,bc]),(aL,[aL],[aJ,ao,aE,aO,aC,aD,aB,aU,bc]),(aE,[aE],[aJ,ao,aL,aO,aC,aD,aB,aU,bc]),(aO,[aO],[aJ,ao,aL,aE,aC,aD,aB,aU,bc]),(aC,[aC],[aJ,ao,aL,aE,aO,aD,aB,aU,bc]),(aD,[aD],[aJ,ao,aL,aE,aO,aC,aB,aU,bc]),(aB,[aB],[aJ,ao,aL,aE,aO,aC,aD,aU,bc]),(⟨#[86,97,108,117,101,69,114,114,111,114]⟩,[aJ,ao,aL,aE,aO,aC,aD,aB,aU,bc],[]),(aJ,[aJ,ao,aL,aE,aO,aC,aD,aB,aU,bc],[])]
noncomputable def sbt:List (List Str×List Str×List Str):=[([aU,bc],[aU,bc],[aJ,ao,aL,aE,aO,aC,aD,aB])]
end Lq
end
section
set_option backward.match.sparseCases false
namespace Mv
open PySem PyProof.Rows
structure Tb where
 fn:List DefRec
 gl:List Str
 cl:List Str:=[]
 sub:List (Str×List Str×List Str):=[]
 sbt:List (List Str×List Str×List Str):=[]
 m0:Nat:=0
 rb:List (List Nat):=[]
 cr:Option ClsRec:=none
 an:List Str:=[]
noncomputable def tb:Tb:=⟨recsOf Hq.view ++ (((clssOf Hq.view []).find? fun c=>c.name == ("Machine" :Str)).elim [] (·.meths)).map (fun m=>⟨m.name,m.params,m.body,m.scope,default⟩),Lq.gls,Lq.cls,Lq.sb,Lq.sbt,36,(Lq.P.fns.drop 36).map (·.rb),(clssOf Hq.view []).find? fun c=>c.name == ("Machine" :Str),["functions","most","calls","tasks","told"]⟩
structure Sc where
 names:List (Str×NameKind)
 vars:List (Str×Nat)
 hi:Nat
 sn:Str:=⟨#[]⟩
 ats:List (Str×Nat):=[]
def Sc.isG (sc:Sc) (x:Str) :Prop:=sc.names.lookup x = some .globalImplicit∧(x == ("__debug__" :Str)) = false
def Sc.isV (sc:Sc) (x:Str) (i:Nat) :Prop:=sc.vars.lookup x = some i∧(x == ("__debug__" :Str)) = false
structure Sc.isA (sc:Sc) (x a:Str) (i:Nat):Prop where
 sn:x=sc.sn
 at':sc.ats.lookup a=some i
 db:(x == ("__debug__" :Str)) = false
noncomputable def Sc.as (sc:Sc):List Nat:=sc.ats.map (·.2)
inductive PE (sc:Sc):Expr->Nat->Prop
 |nm {x:Str} {pos:Pos} {i:Nat}:sc.isV x i->PE sc (.Name x pos) i
 |atr {x a:Str} {p pos:Pos} {i:Nat}:sc.isA x a i->PE sc (.Attribute (.Name x p) a pos) i
inductive eB:Const->D->Prop
 |none:eB .none .none
 |bool (b:Bool):eB (.bool b) (.bool b)
 |int (i:Int):eB (.int i) (.int i)
 |str (x:Str):PyData.strOk x=true->x.cps.size<=Sz->eB (.str x) (.str x)
noncomputable def wx:lE->Operator
 |.add=>.Add|.sub=>.Sub|.mul=>.Mult|.fdiv=>.FloorDiv|.mod=>.Mod|.pow=>.Pow
mutual
noncomputable def aS:Ex->List Nat
 |.lit _=>[]|.gl _=>[]|.var _=>[]|.pl _=>[]|.isx _ _ _=>[]|.pop _=>[]
 |.mcall _ _ es=>bf es
 |.callw _ es e=>bf es++aS e
 |.dsel _ es _=>bf es
 |.tup es=>bf es
 |.list es=>bf es
 |.op2 _ a b=>aS a++aS b
 |.neg a=>aS a
 |.not a=>aS a
 |.cmp _ a b=>aS a++aS b
 |.cmp2 _ _ a b c=>aS a++aS b++aS c
 |.and es=>bf es
 |.or es=>bf es
 |.ite c a b=>aS c++aS a++aS b
 |.idx a i=>aS a++aS i
 |.slc a l h=>aS a++aS l++aS h
 |.call _ es=>bf es
 |.bi _ es=>bf es
 |.comp e t _ b8 cs=>aW t++aS e++bf b8++bf cs
noncomputable def bf:List Ex->List Nat
 |[]=>[]
 |e::es=>aS e++bf es
end
noncomputable def MD:Ex->List Nat
 |.pl (.var i)=>[i]
 |_=>[]
def Apart (x:Ex) (bv:List Nat):Prop:= ∀i∈MD x,i∉bv
noncomputable def dw:Bi->Str
 | .len=>"len" | .isi _=>"isinstance" | .sum=>"sum" | .abs=>"abs" | .int=>"int" | .tuple=>"tuple" | .list=>"list"
 | _=>"len"
noncomputable def Bi.one:Bi->Bool
 |.len=>true|.sum=>true|.abs=>true|.int=>true|.tuple=>true|.list=>true
 |_=>false
noncomputable def fc:Expr->Bool
 |.Name _ _=>true
 |.Constant _ _ _=>true
 |_=>false
inductive KS:List (Option Expr)->List Str->Prop
 |nil:KS [] []
 |cons {k:Str} {kk:Nat} {p:Pos} {es:List (Option Expr)} {ks:List Str}:KS es ks->KS (some (.Constant (.str k) kk p)::es) (k::ks)
inductive BX (sc:Sc):Expr->Bi->List Expr->Prop
 | count {cW pos:Pos} {a k:Expr} :fc a = true→fc k = true→(cW.endLine == pos.line) = true→BX sc (.Call (.Attribute a "count" cW) [k] [] pos) .count [a,k]
 | dzip {p p' pos gn:Pos} {a b:Expr} :sc.isG "dict"→sc.isG "zip"→BX sc (.Call (.Name "dict" p) [.Call (.Name "zip" p') [a,b] [] gn] [] pos) .dzip [a,b]
 |dict0 {pos:Pos}:BX sc (.Dict [] [] pos) .dict0 []
noncomputable def bJ (scope:Scope) (sc:Sc) (vs:List Str) (i:Nat):Sc:=⟨scope.names,vs.zipIdx i++sc.vars.filter λp=>decide (scope.names.lookup p.1=some .free),i+vs.length,⟨#[]⟩,[]⟩
inductive CG (i:Nat):Expr->List Str->Tgt->Prop
 |one {v:Str} {p:Pos}:CG i (.Name v p) [v] (.one i)
structure gN (scope:Scope) (sc:Sc) (vs:List Str):Prop where
 kind:scope.kind = .function
 names:∀x∈scope.names,x.2 = .local->scope.names.lookup x.1=some .local
 cell:∀x∈scope.names,x.2≠ .cell
 loc:∀v∈vs,scope.names.lookup v=some .local
 vnd:vs.Nodup
 free:∀x∈scope.names,x.2 = .free→scope.names.lookup x.1 = some .free∧(x.1 == ("__classdict__" :Str)) = false∧(∃i,sc.vars.lookup x.1 = some i)∧(sc.names.lookup x.1 = some .cell∨sc.names.lookup x.1 = some .free)
 nodup:((scope.names.filter λx=>x.2 == .free).map (·.1)).Nodup
inductive NS (sc:Sc):List Expr->List Str->Prop
 |nil:NS sc [] []
 |cons {x:Str} {p:Pos} {es:List Expr} {xs:List Str}:sc.isG x->NS sc es xs->NS sc (.Name x p::es) (x::xs)
inductive Sy where
 |e (e:Expr) (x:Ex)
 |s (es:List Expr) (xs:List Ex)
 |o (o:Option Expr) (x:Ex)
 |i (e:Expr) (it:iN) (b8:List Ex)
class inductive CQ:Sc->Sy->Prop
 |lit {sc:Sc} {c:Const} {k:Nat} {pos:Pos} {d:D}:eB c d->CQ sc (.e (.Constant c k pos) (.lit d))
 |var {sc:Sc} {x:Str} {pos:Pos} {i:Nat}:sc.isV x i->CQ sc (.e (.Name x pos) (.var i))
 |pl {sc:Sc} {x:Str} {pos:Pos} {i:Nat}:sc.isV x i->CQ sc (.e (.Name x pos) (.pl (.var i)))
 |gl {sc:Sc} {x:Str} {pos:Pos} {k:Nat}:sc.isG x->tb.gl[k]? = some x->CQ sc (.e (.Name x pos) (.gl k))
 |tup {sc:Sc} {es:List Expr} {k:Nat} {pos:Pos} {xs:List Ex}:CQ sc (.s es xs)->xs.length<=1000->CQ sc (.e (.Tuple es k pos) (.tup xs))
 |list {sc:Sc} {es:List Expr} {pos:Pos} {xs:List Ex}:CQ sc (.s es xs)->xs.length<=1000->CQ sc (.e (.List es pos) (.list xs))
 |op2 {sc:Sc} {a b:Expr} {pos:Pos} {o:lE} {x y:Ex}:CQ sc (.e a x)->CQ sc (.e b y)->Apart x (aS y)->CQ sc (.e (.BinOp a (wx o) b pos) (.op2 o x y))
 |neg {sc:Sc} {a:Expr} {pos:Pos} {x:Ex}:CQ sc (.e a x)->CQ sc (.e (.UnaryOp .USub a pos) (.neg x))
 |not {sc:Sc} {a:Expr} {pos:Pos} {x:Ex}:CQ sc (.e a x)->CQ sc (.e (.UnaryOp .Not a pos) (.not x))
 |cmp {sc:Sc} {a b:Expr} {pos:Pos} {o:Cm} {x y:Ex}:CQ sc (.e a x)->CQ sc (.e b y)->Apart x (aS y)->CQ sc (.e (.Compare a [eM o] [b] pos) (.cmp o x y))
 |cmp2 {sc:Sc} {a b e:Expr} {pos:Pos} {o p:Cm} {x y z:Ex}:CQ sc (.e a x)->CQ sc (.e b y)->CQ sc (.e e z)->CQ sc (.e (.Compare a [eM o,eM p] [b,e] pos) (.cmp2 o p x y z))
 |and {sc:Sc} {es:List Expr} {pos:Pos} {xs:List Ex}:CQ sc (.s es xs)->CQ sc (.e (.BoolOp .And es pos) (.and xs))
 |or {sc:Sc} {es:List Expr} {pos:Pos} {xs:List Ex}:CQ sc (.s es xs)->CQ sc (.e (.BoolOp .Or es pos) (.or xs))
 |ite {sc:Sc} {t a b:Expr} {pos:Pos} {x y z:Ex}:CQ sc (.e t x)->CQ sc (.e a y)->CQ sc (.e b z)->CQ sc (.e (.IfExp t a b pos) (.ite x y z))
 |idx {sc:Sc} {a i:Expr} {pos:Pos} {x z:Ex}:CQ sc (.e a x)->CQ sc (.e i z)->Apart x (aS z)->CQ sc (.e (.Subscript a i pos) (.idx x z))
 |slc {sc:Sc} {a:Expr} {lo hi:Option Expr} {p pos:Pos} {x l h:Ex}:CQ sc (.e a x)->CQ sc (.o lo l)->CQ sc (.o hi h)->Apart x (aS l++aS h)->CQ sc (.e (.Subscript a (.Slice lo hi none p) pos) (.slc x l h))
 |call {sc:Sc} {f:Nat} {d:DefRec} {p pos:Pos} {args:List Expr} {xs:List Ex}:tb.fn[f]? = some d/\f<tb.m0->sc.isG d.name->CQ sc (.s args xs)->args.length<=29->CQ sc (.e (.Call (.Name d.name p) args [] pos) (.call f xs))
 |bi1 {sc:Sc} {b:Bi} {p pos:Pos} {a:Expr} {x:Ex}:b.one=true->sc.isG (dw b)->CQ sc (.e a x)->CQ sc (.e (.Call (.Name (dw b) p) [a] [] pos) (.bi b [x]))
 | isi {sc:Sc} {t:Ty} {p p' pos:Pos} {a:Expr} {x:Ex} :sc.isG "isinstance"→sc.isG (cE t)→CQ sc (.e a x)→CQ sc (.e (.Call (.Name "isinstance" p) [a,.Name (cE t) p'] [] pos) (.bi (.isi t) [x]))
 |comp {sc:Sc} {cq iter g:Expr} {vs:List Str} {t:Tgt} {pos:Pos} {eO:List Expr} {scope:Scope} {i:Nat} {it:iN} {b8 ay:List Ex} {x:Ex}:CG i g vs t->CQ sc (.i iter it b8)->gN scope sc vs->sc.hi<=i->
   CQ (bJ scope sc vs i) (.e cq x)->CQ (bJ scope sc vs i) (.s eO ay)->(∀j∈aW t,j∉aS x/\j∉bf ay)->CQ sc (.e (.ListComp cq [⟨g,iter,eO,0⟩] scope pos) (.comp x t it b8 ay))
 | isx {sc:Sc} {x C:Str} {p p1 p2 pos:Pos} {i:Nat} {yes no:List Str} :sc.isG "isinstance"→sc.isV x i→sc.isG C→tb.sub.lookup C = some (yes,no)→CQ sc (.e (.Call (.Name "isinstance" p) [.Name x p1,.Name C p2] [] pos) (.isx i yes no))
 | isxt {sc:Sc} {x:Str} {cs:List Str} {es:List Expr} {p p1 p2 pos:Pos} {k i:Nat} {yes no:List Str} :sc.isG "isinstance"→sc.isV x i→NS sc es cs→cs.length≤1000→tb.sbt.lookup cs = some (yes,no)→CQ sc (.e (.Call (.Name "isinstance" p) [.Name x p1,.Tuple es k p2] [] pos) (.isx i yes no))
 |dsel {sc:Sc} {lB:List (Option Expr)} {ks:List Str} {dI:List Expr} {xs:List Ex} {x:Str} {i:Nat} {dp p pos:Pos}:KS lB ks->CQ sc (.s dI xs)->sc.isV x i->ks.Nodup->ks.length=xs.length->ks≠ []/\ks.length<=15->CQ sc (.e (.Subscript (.Dict lB dI dp) (.Name x p) pos) (.dsel ks xs i))
 |bx {sc:Sc} {e:Expr} {b:Bi} {es:List Expr} {xs:List Ex}:BX sc e b es->CQ sc (.s es xs)->CQ sc (.e e (.bi b xs))
 |avar {sc:Sc} {x a:Str} {p pos:Pos} {i:Nat}:sc.isA x a i->CQ sc (.e (.Attribute (.Name x p) a pos) (.var i))
 |apl {sc:Sc} {x a:Str} {p pos:Pos} {i:Nat}:sc.isA x a i->CQ sc (.e (.Attribute (.Name x p) a pos) (.pl (.var i)))
 | pop {sc:Sc} {o:Expr} {ap pos:Pos} {i:Nat} :PE sc o i→(ap.endLine == pos.line) = true→CQ sc (.e (.Call (.Attribute o "pop" ap) [] [] pos) (.pop (.var i)))
 | mcall {sc:Sc} {f:Nat} {d:DefRec} {x:Str} {p ap pos:Pos} {args:List Expr} {xs:List Ex} :tb.fn[f]? = some d∧tb.m0 < f∧tb.rb[f - tb.m0]? = some []→x = sc.sn∧(x == ("__debug__" :Str)) = false∧sc.ats≠ []→(ap.endLine == pos.line) = true→CQ sc (.s args xs)→args.length≤28→
   CQ sc (.e (.Call (.Attribute (.Name x p) d.name ap) args [] pos) (.mcall f sc.as xs))
 |callw {sc:Sc} {f:Nat} {d:DefRec} {p pos:Pos} {args:List Expr} {e:Expr} {xs:List Ex} {z:Ex}:tb.fn[f]? = some d/\f<tb.m0->sc.isG d.name->CQ sc (.s args xs)->CQ sc (.e e z)->args.length<=28/\(∀x∈xs, ∀p,x≠ .pl p)->CQ sc (.e (.Call (.Name d.name p) (args++[e]) [] pos) (.callw f xs z))
 |nil {sc:Sc}:CQ sc (.s [] [])
 |cons {sc:Sc} {e:Expr} {es:List Expr} {x:Ex} {xs:List Ex}:CQ sc (.e e x)->CQ sc (.s es xs)->Apart x (bf xs)->CQ sc (.s (e::es) (x::xs))
 |onone {sc:Sc}:CQ sc (.o none (.lit .none))
 |osome {sc:Sc} {e:Expr} {x:Ex}:CQ sc (.e e x)->CQ sc (.o (some e) x)
 |seq {sc:Sc} {e:Expr} {x:Ex}:CQ sc (.e e x)->CQ sc (.i e .seq [x])
 | range {sc:Sc} {p pos:Pos} {e:Expr} {x:Ex} :sc.isG "range"→CQ sc (.e e x)→CQ sc (.i (.Call (.Name "range" p) [e] [] pos) .range [x])
 | rev {sc:Sc} {p pos:Pos} {e:Expr} {x:Ex} :sc.isG "reversed"→CQ sc (.e e x)→CQ sc (.i (.Call (.Name "reversed" p) [e] [] pos) .rev [x])
abbrev CE (sc:Sc) (e:Expr) (x:Ex):Prop:=CQ sc (.e e x)
abbrev lA (sc:Sc) (es:List Expr) (xs:List Ex):Prop:=CQ sc (.s es xs)
abbrev Ms (sc:Sc) (o:Option Expr) (x:Ex):Prop:=CQ sc (.o o x)
abbrev IT (sc:Sc) (e:Expr) (it:iN) (b8:List Ex):Prop:=CQ sc (.i e it b8)
noncomputable def dK:Expr->Bool
 |.ListComp ..=>false
 |.SetComp ..=>false
 |.DictComp ..=>false
 |_=>true
noncomputable def pv:Expr->Bool
 |.Tuple _ _ _=>false
 |_=>true
inductive Mr (e:Expr) (env:Env) (rest:List Expr) (op:CmpOp) (v o' i':Value) (o i:Expr) (p:Pos) (l:Nat) (t:Option Expr) (es:List Expr) (k:Nat):Prop
 |mk:starEach (e::rest) env=(false,eval e env)::starEach rest env->behindInMarks op e=false->foldedSetIterable e env v=pure v->subscripted e false o' i'=operate [o',i'] (getItem o' i')->
  swapsWith e (some (.Subscript o i p)) l env=pure false->(dK e=false\/swapsWith e t l env=pure false)->(pv e=false\/swappedStores [.Tuple es k p] e env=pure none)->Mr e env rest op v o' i' o i p l t es k
noncomputable def shp:Expr->Bool
 |.Starred _ _=>false
 |.Set _ _ _=>false
 |.Slice _ _ _ _=>false
 |.SetComp _ _ _ _=>false
 |.DictComp _ _ _ _ _=>false
 |_=>true
inductive Sx:Ex->Prop
 |lit (d:D):Sx (.lit d)
 |var (i:Nat):Sx (.var i)
 |pl (p:Pl):Sx (.pl p)
 |gl (k:Nat):Sx (.gl k)
inductive CI (sc:Sc):Expr->Ex->Prop
 |comp {cq iter g:Expr} {vs:List Str} {t:Tgt} {pos:Pos} {eO:List Expr} {scope:Scope} {i:Nat} {it:iN} {b8 ay:List Ex} {x:Ex}:CG i g vs t->IT sc iter it b8->gN scope sc vs->sc.hi<=i->
   CE (bJ scope sc vs i) cq x->lA (bJ scope sc vs i) eO ay->(∀j∈aW t,j∉aS x/\j∉bf ay)->CI sc (.ListComp cq [⟨g,iter,eO,0⟩] scope pos) (.comp x t it b8 ay)
 |lit {c:Const} {k:Nat} {pos:Pos} {d:D}:eB c d->CI sc (.Constant c k pos) (.lit d)
 |nm {x:Str} {pos:Pos} {z:Ex}:Sx z->CI sc (.Name x pos) z
 |other {e:Expr} {z:Ex}:dK e=true->fc e=false->shp e=true->CI sc e z
def Nz (sc:Sc):Sy->Prop
 |.e e x=>CI sc e x
 |.i e _ _=>(∃x,CE sc e x)\/ ∀(env:Env) (v:Value),foldedSetIterable e env v=pure v
 |_=>True
theorem CQ.ci {sc:Sc} {q:Sy} (h:CQ sc q):Nz sc q:=
 CQ.casesOn (motive:=λsc q aa=>Nz sc q) h (λh=>CI.lit h) (λaa=>CI.nm (.var _)) (λaa=>CI.nm (.pl _)) (λaa aA=>CI.nm (.gl _)) (λaa aA=>CI.other rfl rfl rfl) (λaa aA=>CI.other rfl rfl rfl) (λaa aA bF=>CI.other rfl rfl rfl) (λaa=>CI.other rfl rfl rfl) (λaa=>CI.other rfl rfl rfl) (λaa aA bF=>CI.other rfl rfl rfl) (λaa aA bF=>CI.other rfl rfl rfl) (λaa=>CI.other rfl rfl rfl) (λaa=>CI.other rfl rfl rfl) (λaa aA bF=>CI.other rfl rfl rfl) (λaa aA bF=>CI.other rfl rfl rfl) (λaa aA bF gy=>CI.other rfl rfl rfl) (λaa aA bF gy=>CI.other rfl rfl rfl) (λaa aA bF=>CI.other rfl rfl rfl) (λaa aA bF=>CI.other rfl rfl rfl) (λh0 h1 h2 h3 h4 h5 h6=>CI.comp h0 h1 h2 h3 h4 h5 h6) (λaa aA bF gy=>CI.other rfl rfl rfl) (λaa aA bF gy xq=>CI.other rfl rfl rfl) (λaa aA bF gy xq K0=>CI.other rfl rfl rfl) (fun {sc _ _ _ xs} h _=>BX.casesOn (motive:=λe b aa aA=>CI sc e (.bi b xs)) h (λaa aA bF=>.other rfl rfl rfl) (λaa aA=>.other rfl rfl rfl) (.other rfl rfl rfl)) (λaa=>CI.other rfl rfl rfl) (λaa=>CI.other rfl rfl rfl) (λaa aA=>CI.other rfl rfl rfl) (λaa aA bF gy xq=>CI.other rfl rfl rfl) (λaa aA bF gy xq=>CI.other rfl rfl rfl) trivial (λaa aA bF=>trivial) trivial (λaa=>trivial) (λh=>.inl ⟨_,h⟩) (λaa aA=>.inr λaa aA=>rfl) (λaa aA=>.inr λaa aA=>rfl)
theorem CE.ci {sc:Sc} {x:Ex} (h:CE sc e x):CI sc e x:=CQ.ci h
theorem CE.shp {sc:Sc} {x:Ex} (h:CE sc e x):shp e=true:=CI.casesOn (motive:=λe aa aA=>Mv.shp e=true) h.ci (λaa aA bF gy xq K0 N3=>rfl) (λaa=>rfl) (λaa=>rfl) λaa aA h=>h
theorem CE.sx {sc:Sc} {k:Expr} (ce:CE sc k z):fc k=true->Sx z:=CI.casesOn (motive:=λk z aa=>fc k=true->Sx z) ce.ci (λaa aA bF gy xq K0 N3 q=>noConfusion q) (fun {_ _ _ d} _ _=>.lit d) (λh aa=>h) λaa h aA q=>noConfusion (h.symm.trans q)
theorem DK (env:Env) (rest:List Expr) (op:CmpOp) (v o' i':Value) (o i:Expr) (p:Pos) (l:Nat) (t:Option Expr) (es:List Expr) (k:Nat) (h:shp e=true):Mr e env rest op v o' i' o i p l t es k:=by
 cases e<;>first|exact .mk rfl rfl rfl rfl rfl (.inr rfl) (.inr rfl)|exact .mk rfl rfl rfl rfl rfl (.inl rfl) (.inr rfl)|exact .mk rfl rfl rfl rfl rfl (.inr rfl) (.inl rfl)|cases h
theorem CE.epl {sc:Sc} {x:Ex} (env:Env) (rest:List Expr) (op:CmpOp) (v o' i':Value) (o i:Expr) (p:Pos) (l:Nat) (t:Option Expr) (es:List Expr) (k:Nat) (h:CE sc e x):Mr e env rest op v o' i' o i p l t es k:=DK env rest op v o' i' o i p l t es k h.shp
theorem CE.star {sc:Sc} {x:Ex} (h:CE sc e x) (env:Env) (rest:List Expr):starEach (e::rest) env=(false,eval e env)::starEach rest env:=by
 cases CE.epl env rest .Eq .none .none .none e e e.pos 0 none [] 0 h;assumption
theorem CE.noSet {sc:Sc} {x:Ex} (h:CE sc e x) (op:CmpOp):behindInMarks op e=false:=by
 cases CE.epl default [] op .none .none .none e e e.pos 0 none [] 0 h;assumption
theorem CE.noFold {sc:Sc} {x:Ex} (h:CE sc e x) (env:Env) (v:Value):foldedSetIterable e env v=pure v:=by
 cases CE.epl env [] .Eq v .none .none e e e.pos 0 none [] 0 h;assumption
theorem CE.isPlain {sc:Sc} {x:Ex} (h:CE sc e x) (o i:Value):subscripted e false o i=operate [o,i] (getItem o i):=by
 cases CE.epl default [] .Eq .none o i e e e.pos 0 none [] 0 h;assumption
theorem uc {sc:Sc} {env:Env} {o i:Expr} {p:Pos} {l:Nat} (ce:CE sc e z):swapsWith e (some (.Subscript o i p)) l env=pure false:=by
 cases CE.epl env [] .Eq .none .none .none o i p l none [] 0 ce;assumption
theorem eU {sc:Sc} {env:Env} {t:Option Expr} {l:Nat} (ce:CE sc e z) (h:dK e=true):swapsWith e t l env=pure false:=by
 cases CE.epl env [] .Eq .none .none .none e e e.pos l t [] 0 ce with
 |mk _ _ _ _ _ a _=>exact a.elim (λq=>by have h:=q▸h;cases h) id
theorem qQ {sc:Sc} {env:Env} {k:Nat} {p:Pos} {e:Ex} (ce:CE sc value e) (h:pv value=true):swappedStores [.Tuple es k p] value env=pure none:=by
 cases CE.epl env [] .Eq .none .none .none value value p 0 none es k ce with
 |mk _ _ _ _ _ _ a=>exact a.elim (λq=>by have h:=q▸h;cases h) id
theorem IT.noFold {sc:Sc} {it:iN} (h:IT sc e it b8) (env:Env) (v:Value):foldedSetIterable e env v=pure v:=(CQ.ci h).elim (λ⟨_,h⟩=>CE.noFold h env v) λq=>q env v
theorem be {m:cA α} {k:α->Fm->cA β} {o:Except Str β×Fm} (h:aT m k=some o):(∃e fr,m=some (.error e,fr)/\o=(.error e,fr))\/ ∃a fr,m=some (.ok a,fr)/\k a fr=some o:=by
 rcases m with _|⟨_|a,fr⟩
 .exact ah h
 .exact .inl ⟨_,_,rfl,(Y9 h).symm⟩
 .exact .inr ⟨_,_,rfl,h⟩
inductive F7 {α:Type} (fr:Fm) (m:Option α) (o:Except Str α×Fm):Prop
 |mk (a:α):m=some a->o=(.ok a,fr)->F7 fr m o
theorem fS {m:Option α} {o:Except Str α×Fm} (h:nH fr m=some o):F7 fr m o:=by
 cases m with
 |none=>exact ah h
 |some a=>exact⟨a,rfl,(Y9 h).symm⟩
theorem iF {m:Option Rv} {o:Except Str Rv×Fm} (h:rg fr m=some o):F7 fr m o:=by
 rcases m with _|⟨_|_|_⟩
 .exact ah h
 .exact⟨_,rfl,(aI h).symm⟩
 .exact⟨_,rfl,(aI h).symm⟩
 .exact ah h
variable [Hp]
theorem eG.det {v':Value} (x:eG h l v) (z:eG h l v'):v=v':=by
 cases l with
 |dict a n=>
  obtain⟨m,⟨o,es,ep,ho,hd,hk,hf⟩,e⟩:=x;obtain⟨m',⟨o',CD,CH,lC,c5,eF,AY⟩,e'⟩:=z;rw[ho]at lC;obtain rfl:=aI lC;have c5:=hd▸c5;cases c5;rw[<- hf,AY,e']at e;refine Er (aI e) ?_;rfl
 |cell a=>
  obtain⟨o,x⟩:=x;obtain⟨o',lC,c5⟩:=z;rw[x.1]at lC;obtain rfl:=aI lC;have c5:=x.2▸c5;cases c5;rfl
 |attr a ns n=>
  obtain⟨m,⟨⟨o,es,ep,ho,hd,_,_,hf⟩,_⟩,e⟩:=x;obtain⟨m',⟨⟨o',CD,CH,lC,c5,_,_,AY⟩,_⟩,e'⟩:=z;rw[ho]at lC;obtain rfl:=aI lC;rw[hd]at c5;cases c5;rw[<- hf,AY,e']at e;refine Er (aI e) ?_;rfl
def BR (F:Addr->Prop) (A:Around):Prop:= ∃l,A.frames=some l/\ ∀e∈l,e.scope.kind≠ .module/\ ∃L,e.frame=some L/\F L
structure jV (sc:Sc) (env:Env) (y:Lay) (p:Addr×Obj) (dx:Addr):Prop where
 slf:y.slf=some p
 cls:∃c C,tb.cr=some c/\mg c.name=some (.ref C)/\p.2.cls = .ref C
 nc:∀c,p.2.data≠ .cls c
 dic:p.2.dict=some dx
 ne:dx≠p.1
 lk:env.kindOf sc.sn=some .local
 ls:y.loc y.si=some (.dict env.locals sc.sn)
 an:∀a i,sc.ats.lookup a=some i->a∈tb.an/\y.loc i=some (.attr dx tb.an a)
 as:∀(k i:Nat),sc.as[k]? = some i-> ∃a,tb.an[k]? = some a/\y.loc i=some (.attr dx tb.an a)
 len:sc.as.length=tb.an.length
 full:∀i l,y.loc i=some l->l.addr=dx->i∈sc.as
 zd:∀i l,y.loc i=some l->l.addr=dx-> ∃a,l = .attr dx tb.an a
structure aN (A:Around) (sc:Sc) (env:Env) (y:Lay):Prop where
 stk:BR (λa=>y.F a\/a=y.L) A
 hi:∀i l,y.loc i=some l->i<sc.hi
 kind:env.scope.kind = .function
 glob:env.globals=mainGlobals
 blt:env.builtins=builtinsNs
 frame:env.frame=some y.L
 top:∃e0 dX,A.frames=some (e0::dX)/\e0.frame=env.frame
 var:∀x i,sc.vars.lookup x = some i→(env.kindOf x = some .local∧y.loc i = some (.dict env.locals x))∨((env.kindOf x = some .cell∨(env.kindOf x = some .free∧(x == ("__classdict__" :Str)) = false))∧ ∃c,env.cells.lookup x = some c∧y.loc i = some (.cell c))
 gl:∀x,sc.names.lookup x=some .globalImplicit->env.kindOf x=some .globalImplicit
 cf:∀x,sc.names.lookup x=some .cell\/sc.names.lookup x=some .free->env.kindOf x=some .cell\/env.kindOf x=some .free
 ins:sc.ats≠ []-> ∃p dx,jV sc env y p dx
 nsi:∀x i,sc.vars.lookup x=some i-> ∀p,y.slf=some p->y.si≠i
 slo:∀p,y.slf=some p-> ∃l,y.loc y.si=some l
noncomputable def jg:List Str:=["len","isinstance","sum","all","abs","int","str","tuple","list","bool","range","set","zip","dict","reversed"]
def eN (B:Heap) (C:Addr) (V:Value) (b:Bool):Prop:= ∀(prog:Program) (w:World) (A:Around) (E:Value->Shared->Prop) (s:Shared) (a:Addr) (o:Obj),(∀a o,B.get? a=some o->s.heap.get? a=some o)->s.heap.get? a=some o->(o.cls = .ref C/\o.dict=none/\ ∃vs,o.data = .fields vs)->
 (∀Q:Bool→Shared→Prop,Q b s→wpAny (model prog w) A (excMatches (.ref a) V) Q E s)∧ ∀Q:Value→Shared→Prop,(∀tk,Q (.bool b) {s with toks:=tk})→wpAny (model prog w) A (call (.builtin "isinstance") [.ref a,V]) Q E s
def dO (B:Heap) (C:Addr) (Vs:List Value) (b:Bool):Prop:= ∀(prog:Program) (w:World) (A:Around) (E:Value->Shared->Prop) (s:Shared) (a tp:Addr) (o:Obj),(∀a o,B.get? a=some o->s.heap.get? a=some o)->s.heap.get? a=some o->(o.cls = .ref C/\o.dict=none/\ ∃vs,o.data = .fields vs)->
 s.heap.get? tp = some {cls:=.type "tuple",data:=.seq Vs.toArray}→ ∀Q:Value→Shared→Prop,(∀tk,Q (.bool b) {s with toks:=tk})→wpAny (model prog w) A (call (.builtin "isinstance") [.ref a,.ref tp]) Q E s
def f8 (mg mb:Str->Option Value):List Str->List Value->Prop
 |[],[]=>True
 |x::xs,v::vs=>(mg x=some v\/(mg x=none/\mb x=some v))/\f8 mg mb xs vs
 |_,_=>False
structure Gd (glob:List D):Prop where
 g:B.Ns mainGlobals mg
 b:B.Ns builtinsNs mb
 nl:B.NoLimit
 bt:∀x:Str,x≠"__name__"→mb x = bootBuiltins x
 fn:∀(f:Nat) (d:DefRec),f<tb.m0->tb.fn[f]? = some d-> ∃a o pm code gk,mg d.name=some (.ref a)/\B.get? a=some o/\o.data = .func (docDef d.name d.params d.body d.scope pm code gk)/\B.CodeRec code d.name
 pl:∀c,tb.cr = some c→ ∃C N mN,mg c.name = some (.ref C)∧PlainAt B c C N mN∧(∀a∈tb.an,mN a = none∧typeLookup (.type "object") a = pure none)∧
  ∀(f:Nat) (d:DefRec),tb.m0≤f→tb.fn[f]? = some d→⟨d.name,d.params,d.body,d.scope⟩∈c.meths∧d.name∉tb.an∧ ∃y,typeLookup (.type "object") d.name = pure y
 gl:∀(k:Nat) (x:Str) (d:D),tb.gl[k]? = some x->glob[k]? = some d-> ∃v,mg x=some v/\ ∀(h:Heap) (Z:Addr->Prop),(∀a o,B.get? a=some o->h.get? a=some o)->(∀a o,B.get? a=some o->Z a)->b5 h Z v d
 bi:∀x∈jg,mg x=none
 cl:∀k∈tb.cl, ∃C Bb newId gK bm,OwnClsQ k C bm newId mg B/\ExcBaseFacts Bb newId gK bm
 ask:∀c yes no,tb.sub.lookup c=some (yes,no)-> ∃V,(mg c=some V\/(mg c=none/\mb c=some V))/\ ∀k C,mg k=some (.ref C)->(k∈yes->eN B C V true)/\(k∈no->eN B C V false)
 askT:∀cs yes no,tb.sbt.lookup cs=some (yes,no)-> ∃Vs,f8 mg mb cs Vs/\ ∀k C,mg k=some (.ref C)->(k∈yes->dO B C Vs true)/\(k∈no->dO B C Vs false)
section
variable {y:Lay} {bv bv':List Nat} {own ae:Addr->Option Nat} {Z Z':Addr->Prop} {s s':Shared} {fr cT:Fm}
inductive dB (y:Lay) (bv:List Nat) (own:Addr->Option Nat) (Z:Addr->Prop) (s:Shared) (out:Except Str Rv×Fm) (v:Value) (s':Shared):Prop
 |mk (r:Rv) (ae:Addr->Option Nat) (Z':Addr->Prop):out.1 = .ok r->Inv y ae Z' s'.heap out.2->Step y bv own Z s ae Z' s'->d6 y ae Z' s.heap s'.heap r v->dB y bv own Z s out v s'
theorem dB.sub (hb:∀i∈bv,i∈bv') (p:dB y bv own Z s out v s'):dB y bv' own Z s out v s':=by
 obtain⟨r,ae,Z',e,I,S,q⟩:=p;exact⟨r,ae,Z',e,I,S.sub hb,q⟩
set_option tactic.hygienic true in
theorem d6.dat {d:D} (I:Inv y own Z h fr) (q:d6 y own Z h₀ h r v) (e:cj fr r=some d):dE h Z v d:=by
 cases r with
 |fz d'=>obtain rfl:=aI e;exact .inl q
 |own d'=>obtain rfl:=aI e;refine aX q λa q=>?_;refine Er q.1 ?_;have w:=q.2.2.2.2.2;exact .inr ⟨a,rfl,w⟩
 |pl p=>
  cases p with
  |var i=>
   refine aX q λl q=>?_
   simp only[cj,wg]at e
   split at e
   .rename_i d' hs
    cases e;obtain⟨l',v',cz,EP,R⟩:=I.at' i _ hs (by intro n;cases n);rw[q.1]at cz;obtain rfl:=aI cz;exact Er (q.2.det EP) (.inl R)
   .rename_i d' hs
    cases e;obtain⟨l',v',cz,EP,a,rfl,oa,w⟩:=I.at' i _ hs (by intro n;cases n);rw[q.1]at cz;obtain rfl:=aI cz;exact Er (q.2.det EP) (.inr ⟨a,rfl,w⟩)
   .exact ah e
inductive C2 (y:Lay) (bv:List Nat) (own:Addr->Option Nat) (Z:Addr->Prop) (s:Shared) (ae:Addr->Option Nat) (s':Shared) (fr:Fm) (v:Value) (d:D):Prop
 |mk (mY:Addr->Prop):Inv y ae mY s'.heap fr->Step y bv own Z s ae mY s'->b5 s'.heap mY v d->C2 y bv own Z s ae s' fr v d
theorem d6.freeze {d:D} (I:Inv y ae Z' s'.heap fr) (S:Step y bv own Z s ae Z' s') (q:d6 y ae Z' s.heap s'.heap r v) (e:bQ r=some d):
  C2 y bv own Z s ae s' fr v d:=by
 cases r with
 |fz d'=>exact Er (aI e).symm (⟨Z',I,S,q⟩)
 |own d'=>
  refine Er (aI e).symm ?_;refine aX q λa q=>?_;refine Er q.1 ?_
  exact aX q.2.2.2.2.2.live λo ho=>(⟨_,I.addZ q.2.2.1 q.2.2.2.1 ho,S.addZ q.2.1,q.2.2.2.2.2.rep (λaa z=>.inl z) (.inr rfl)⟩)
 |pl p=>exact ah e
theorem Op.post {aG:Shared} {aR:Addr->Prop} {av:Addr->Option Nat} {iO:Shared} (I:Inv y av aR aG.heap fr) (S:Step y bv own Z s av aR aG) (p:Op aR aG r v iO):dB y bv own Z s (.ok r,fr) v iO:=by
 obtain⟨h',tk,rfl,k,q⟩:=p;cases q with
 |old R=>exact⟨_,av,aR,rfl,I.grow k,S.trans (.grow k),R⟩
 |new e e' R=>exact⟨_,av,_,rfl,I.growZ k e e',S.trans (.growZ k e),R⟩
 |@own a d e w=>
  exact⟨_,av,aR,rfl,I.grow k,S.trans (.grow k),a,rfl,S.old a e,(I.fresh e).1,(I.fresh e).2.1,(I.fresh e).2.2,w⟩
theorem dB.val {d:D} (I:Inv y ae Z' s'.heap fr) (S:Step y bv own Z s ae Z' s') (R:b5 s'.heap Z' v d):dB y bv own Z s (.ok (.fz d),fr) v s':=⟨_,ae,Z',rfl,I,S,R⟩
theorem jt {d:D} (e:bQ r=some d):fQ r=[]:=by cases r<;>first|rfl|exact ah e
end
section
variable {A:Around} {E:Value->Shared->Prop} {env:Env} {glob:List D} {sc:Sc} {y:Lay} {c:cR} {n:Nat}
 {bv:List Nat} {own ac:Addr->Option Nat} {Z aw:Addr->Prop} {s s₁:Shared} {fr aq:Fm}
theorem eH {Q:Value->Shared->Prop} (en:aN A sc env y) (hv:sc.isV x i) (hl:y.loc i=some l) (hr:eG s.heap l v) (h:Q v s):
  wpAny (model prog w) A (eval (.Name x pos) env) Q E s:=by
 refine wpAny_Name ?_ hv.2
 rcases en.var x i hv.1 with⟨hk,e⟩|⟨hk|⟨hk,hc⟩,c,pS,e⟩
 .rw[hl]at e;obtain rfl:=aI e
  obtain⟨m,hr⟩:=hr;exact wpAny_loadName_local en.kind hk hr.1 hr.2 h
 .have e:=hl▸e;obtain rfl:=aI e
  exact wpAny_loadName_cell en.kind hk pS hr h
 .rw[hl]at e;obtain rfl:=aI e
  exact wpAny_loadName_free en.kind hk pS hr h hc
theorem b5.hand {d:D} (r:b5 h Z v d):handedOut v=pure v:=b5.casesOn (motive_1:=λv aa aA=>handedOut v=pure v) r rfl (λaa=>rfl) (λaa aA=>rfl) (λaa aA bF gy=>rfl) (λaa aA bF gy=>rfl) (λaa aA bF gy=>rfl) λaa aA bF gy=>rfl
theorem dA.hand {O:Addr->Prop} {sl:Slot} (x:dA h Z O sl v) (n:sl≠ .no):handedOut v=pure v:=by
 cases sl with
 |no=>exact absurd rfl n
 |fz d=>exact b5.hand x
 |own d=>obtain⟨a,rfl,_⟩:=x;rfl
 |exc c=>refine lM x λa aa aA bF x=>?_;refine Er x.1 ?_;rfl
theorem Sc.isA.ne {a:Str} (hx:sc.isA x a i):sc.ats≠ []:=λq=>by have:=hx.at';rw[q]at this;cases this
theorem gU {x:Str} {p:Addr × Obj} {dx:Addr} {pos:Pos} {Q:Value→Shared→Prop} (J:jV sc env y p dx) (en:aN A sc env y) (I:Inv y own Z s.heap fr) (hx:x = sc.sn) (hd:(x == ("__debug__" :Str)) = false) (h:Q (.ref p.1) s) :
  wpAny (model prog w) A (eval (.Name x pos) env) Q E s:=by
 obtain⟨l,hl,m,hn,hm⟩:∃l,some l=some (Loc.dict env.locals sc.sn)/\ ∃m,s.heap.Ns env.locals m/\m sc.sn=some (.ref p.1):=by
  obtain⟨l,hl,r⟩:=(I.sf p J.slf).rd;rw[J.ls]at hl;obtain rfl:=aI hl;exact⟨_,rfl,r⟩
 subst hx;exact wpAny_Name (wpAny_loadName_local en.kind J.lk hn hm h) hd
theorem iV {a:Str} {p:Pos} {Q:Value->Shared->Prop} (gd:Gd glob) (en:aN A sc env y) (I:Inv y own Z s.heap fr) (hx:sc.isA x a i) (hl:y.loc i=some l) (hr:eG s.heap l v) (hv:handedOut v=pure v) (h:∀tk,Q v {s with toks:=tk}):
  wpAny (model prog w) A (eval (.Attribute (.Name x p) a pos) env) Q E s:=by
 refine ag λG2 g2=>?_
 refine fM (en.ins hx.ne) λpp dx J=>?_
 refine ag λG4 g4=>?_
 refine fM J.cls λc C u=>?_;have pR:=u.1;have hC:=u.2.1;have tj:=u.2.2
 refine iM (gd.pl c pR) λC' N mN z=>?_;have rI:=z.1;have P:=z.2.1;have jn:=z.2.2.1
 have rI:=hC▸rI;cases rI;refine g4 ?_;refine g2 ?_;refine Attribute_name (gU J en I hx.sn hx.db ?_);refine ag λG g=>?_
 obtain⟨ha,Iv⟩:=J.an a i hx.at';rw[hl]at Iv;obtain rfl:=aI Iv;refine ag λG1 g1=>?_
 obtain⟨mA,⟨ER,hw⟩,Og⟩:=hr;refine ag λG3 g3=>?_
 obtain⟨nm,q,bs,sn,sub,col,dd,k0,k1,k2,k3,k5,Cv⟩:=(P.cls.keeps I.base).obj;refine g3 ?_;refine g1 ?_;exact g (load_attr Cv (P.cls.keeps I.base).ns (P.quiet _ (Zx _ (by decide))) (jn a ha).1 (jn a ha).2 ⟨pp.2,(I.sf pp J.slf).ob,tj,J.nc,.inr ⟨dx,J.dic,J.ne,ER⟩⟩ Og hv (h _))
theorem j8 {o:Expr} {Q:Value->Shared->Prop} (gd:Gd glob) (en:aN A sc env y) (I:Inv y own Z s.heap fr) (hx:PE sc o i) (hl:y.loc i=some l) (hr:eG s.heap l v) (hv:handedOut v=pure v) (h:∀tk,Q v {s with toks:=tk}):
  wpAny (model prog w) A (eval o env) Q E s:=by
 cases hx with
 |nm hx=>exact eH en hx hl hr (h s.toks)
 |atr hx=>exact iV gd en I hx hl hr hv h
theorem eE {Q:Value->Shared->Prop} (gd:Gd glob) (en:aN A sc env y) (I:Inv y own Z s.heap fr) (hx:sc.isG x) (hv:mg x=some v) (h:Q v s):
  wpAny (model prog w) A (eval (.Name x pos) env) Q E s:=
 Calls.Name_function_global en.kind (en.gl x hx.1) (Calls.loadGlobal_global (by refine Er en.glob ?_;exact gd.g.keeps I.base) hv h) hx.2
theorem di {x:Str} {pos:Pos} {v:Value} {Q:Value→Shared→Prop} (gd:Gd glob) (en:aN A sc env y) (I:Inv y own Z s.heap fr) (hx:sc.isG x) (hm:x∈jg) (hn:x≠"__name__") (hv:bootBuiltins x = some v) (h:Q v s) :
  wpAny (model prog w) A (eval (.Name x pos) env) Q E s:=
 Calls.Name_function_global en.kind (en.gl x hx.1) (Calls.loadGlobal_builtin (by refine Er en.glob ?_;exact gd.g.keeps I.base) (gd.bi x hm) (by refine Er en.blt ?_;exact gd.b.keeps I.base) ((gd.bt x hn).trans hv) h) hx.2
end
noncomputable def mW:Bi->Value
 | .len=>.builtin "len" | .isi _=>.builtin "isinstance" | .sum=>.builtin "sum" | .abs=>.builtin "abs" | .int=>.type "int" | .tuple=>.type "tuple" | .list=>.type "list"
 | _=>.builtin "len"
theorem fZ (b:Bi):dw b∈jg:=by cases b<;>(dsimp only[dw];decide)
theorem hM (b:Bi) :dw b≠("__name__" :Str):=by cases b <;> (dsimp only [dw]; decide)
theorem kc (b:Bi):bootBuiltins (dw b)=some (mW b):=by
 cases b<;>(dsimp only[dw,mW];boot_fast)
theorem BJ (t:Ty):bootBuiltins (cE t)=some (.type (cE t)):=by
 cases t<;>(dsimp only[cE];boot_fast)
theorem boot_zip:bootBuiltins "zip" = some (.type "zip"):=by boot_fast
theorem boot_dict:bootBuiltins "dict" = some (.type "dict"):=by boot_fast
theorem boot_reversed:bootBuiltins "reversed" = some (.type "reversed"):=by boot_fast
theorem boot_range:bootBuiltins "range" = some (.type "range"):=by boot_fast
abbrev Ins:Type:=Option (Addr×Obj×Addr)
noncomputable def j7:Ins->Nat
 |none=>0
 |some _=>tb.an.length
noncomputable def jC (J:Ins) (k:Nat):Option Loc:=match J with
 |none=>none
 |some (_,_,dx)=>(tb.an[k]?).map λa=>.attr dx tb.an a
def uY (J:Ins) (a:Addr):Prop:= ∃x o,J=some (x,o,a)
noncomputable def iR:Ins->List Value
 |none=>[]
 |some (x,_,_)=>[.ref x]
noncomputable def kI (f:Nat):List Nat:=if f<tb.m0 then [] else(tb.rb[f-tb.m0]?).getD []
theorem eC {J:Ins} {k:Nat} (h:jC J k=some l):k<j7 J/\uY J l.addr:=by
 rcases J with _|⟨x,o,dx⟩
 .exact ah h
 .obtain⟨a,ha,rfl⟩:=Z9 h
  exact⟨(List.getElem?_eq_some_iff.mp ha).1,x,o,rfl⟩
structure t3 (F:Addr->Prop) (own:Addr->Option Nat) (Z:Addr->Prop) (h:Heap) (x:Addr) (o:Obj) (dx:Addr):Prop where
 zx:Z x
 ob:h.get? x=some o
 cls:∃c C,tb.cr=some c/\mg c.name=some (.ref C)/\o.cls = .ref C
 nc:∀c,o.data≠ .cls c
 dic:o.dict=some dx
 ne:dx≠x
 zd:¬Z dx
 od:own dx=none
 fd:¬F dx
 ok:∃m,h.Ns1 dx m/\Within m tb.an
def sA (F:Addr->Prop) (own:Addr->Option Nat) (Z:Addr->Prop) (h:Heap) (J:Ins):Prop:= ∀x o dx,J=some (x,o,dx)->t3 F own Z h x o dx
structure Gh (F:Addr->Prop) (own:Addr->Option Nat) (Z:Addr->Prop) (h:Heap):Prop where
 base:∀a o,B.get? a=some o->h.get? a=some o
 zb:∀a o,B.get? a=some o->Z a
 zo:∀a,Z a->own a=none
 zF:∀a,Z a-> ¬F a
 oF:∀a,own a≠none-> ¬F a
 zlv:∀a,Z a-> ∃o,h.get? a=some o
 olv:∀a,own a≠none-> ∃o,h.get? a=some o
 flv:∀a,F a-> ∃o,h.get? a=some o/\NR o
structure y2 (J:Ins) (rb:List Nat) (F:Addr->Prop) (own:Addr->Option Nat) (Z:Addr->Prop) (s:Shared) (ae:Addr->Option Nat) (Z':Addr->Prop) (s':Shared):Prop where
 sh:∃h' tk,s'={s with heap:=h',toks:=tk}
 ext:BU (λa=>own a≠none\/uY J a) F s.heap s'.heap
 zm:∀a,Z a->Z' a
 zn:∀a,Z' a->Z a\/own a≠none\/s.heap.get? a=none
 on:∀a i,ae a=some i->own a=some i\/s.heap.get? a=none
 bind:∀k l v,k∉rb->jC J k=some l->eG s.heap l v->eG s'.heap l v
def t4 (J:Ins) (own:Addr->Option Nat) (Z:Addr->Prop) (h:Heap) (NI:List Slot):Prop:=
 ∀(k:Nat) (sl:Slot) (l:Loc),NI[k]? = some sl->jC J k=some l->sl≠ .no-> ∃v,eG h l v/\dA h Z (λa=>own a=some k) sl v
def hO (J:Ins) (own:Addr->Option Nat) (Z:Addr->Prop) (h:Heap) (args:List Slot) (vs:List Value):Prop:=
 args.length=j7 J+vs.length/\t4 J own Z h args/\ ∀(k:Nat) (sl:Slot) (v:Value),args[j7 J+k]? = some sl->vs[k]? = some v->sl≠ .no/\dA h Z (λa=>own a=some (j7 J+k)) sl v
def JN (F:Addr->Prop) (own:Addr->Option Nat) (Z:Addr->Prop) (h₀ h:Heap):Rv->Value->Prop
 |.fz d,v=>b5 h Z v d
 |.own d,v=> ∃a,v = .ref a/\h₀.get? a=none/\own a=none/\ ¬F a/\ ¬Z a/\bT h Z a d
 |.pl _,_=>False
def f7 (own:Addr->Option Nat) (Z:Addr->Prop) (h:Heap):Nat->List Slot->List Value->List Slot->Prop
 |k,sl::ss,v::vs,aK=>if sl.lent=true then ∃o os,aK=o::os/\(o≠ .no->dA h Z (λa=>own a=some k) o v)/\f7 own Z h (k+1) ss vs os else f7 own Z h (k+1) ss vs aK
 |_,_,_,_=>True
theorem qA {own:Addr->Option Nat} {k:Nat} {sl:Slot} :f7 own Z h k (sl::ss) (v::vs) aK=(if sl.lent=true then ∃o os,aK=o::os/\(o≠ .no->dA h Z (λa=>own a=some k) o v)/\f7 own Z h (k+1) ss vs os else f7 own Z h (k+1) ss vs aK):=rfl
inductive iv (h:Heap) (P:Addr->Prop) (a:Addr) (nm:Str):Prop
 |mk (pa:P a) (oe:Obj) (vs:Array Value) (C:Addr) (m:Str->Option Value):h.get? a=some oe->(oe.cls = .ref C/\oe.dict=none)->oe.data = .fields vs->B.Ns mainGlobals m->m nm=some (.ref C)->
  (vs[1]? = some .none\/ ∃T oT ts,vs[1]? = some (.ref T)/\T≠a/\h.get? T=some oT/\oT.data = .fields ts/\3<ts.size/\P T)->iv h P a nm
theorem iv.mono {P P':Addr->Prop} (x:iv h P a nm) (k:∀b o,h.get? b=some o->P b->P' b):iv h P' a nm:=by
 refine ag λG g=>?_
 obtain⟨p,oe,vs,C,m,he,hc,hd,hn,hm,ht⟩:=x
 rcases ht with q|⟨T,oT,ts,h1,h2,h3,h4,h5,h6⟩
 .exact g (⟨k a _ he p,oe,vs,C,m,he,hc,hd,hn,hm,.inl q⟩)
 .exact g (⟨k a _ he p,oe,vs,C,m,he,hc,hd,hn,hm,.inr ⟨T,oT,ts,h1,h2,h3,h4,h5,k T _ h3 h6⟩⟩)
inductive d7 (J:Ins) (rb:List Nat) (F:Addr->Prop) (own:Addr->Option Nat) (Z:Addr->Prop) (s:Shared) (args:List Slot) (vs:List Value) (iL:Except Str Rv) (aK:List Slot) (r:Result) (s':Shared):Prop
 |mk (ae:Addr->Option Nat) (Z':Addr->Prop):Gh F ae Z' s'.heap->sA F ae Z' s'.heap J->y2 J rb F own Z s ae Z' s'->t4 J ae Z' s'.heap aK->j7 J<=aK.length->f7 ae Z' s'.heap (j7 J) (args.drop (j7 J)) vs (aK.drop (j7 J))->
  ((∃rv v,iL = .ok rv/\r = .ok (.ret v)/\JN F ae Z' s.heap s'.heap rv v)\/
   ∃nm a,iL = .error nm/\r = .error (.ref a)/\iv s'.heap (λb=>s.heap.get? b=none/\ae b=none/\ ¬F b/\ ¬Z' b) a nm)->d7 J rb F own Z s args vs iL aK r s'
def sB (f:Nat) (d:DefRec) (J:Ins) (fa:Addr):Prop:=(J=none↔f<tb.m0)/\ ∃o fP pm code gk,B.get? fa=some o/\o.data = .func (methDef d.name fP d.params d.body d.scope pm code gk)/\B.CodeRec code fP
def qE (n:Nat) (call:Bool->Nat->List Slot->Option (Except Str Rv×List Slot)):Prop:=
 ∀hd f args iL aK,call hd f args=some (iL,aK)-> ∀(d:DefRec),tb.fn[f]? = some d-> ∀(J:Ins) fa,sB f d J fa-> ∀(A:Around) (F:Addr->Prop) (own:Addr->Option Nat) (Z:Addr->Prop) (s:Shared) (vs:List Value),
  A.depth+2*n<=999->A.units+8*n<=4000->(hd=false->A.handled=none)->BR F A->Gh F own Z s.heap->sA F own Z s.heap J->hO J own Z s.heap args vs->
  codeAny (model prog w) A (.call (.ref fa) ⟨iR J++vs,[]⟩) (d7 J (kI f) F own Z s args vs iL aK) s
noncomputable def eV (rs:List Rv) (i:Nat):Nat->Option Nat
 |k=>match rs with
  |[]=>none
  |.pl (.var j)::rs=>if j=i then some k else eV rs i (k+1)
  |_::rs=>eV rs i (k+1)
theorem lY:∀ {rs:List Rv} {i k j:Nat},eV rs i k=some j->k<=j/\rs[j-k]? = some (.pl (.var i)):=by
 intro rs i k j h
 induction rs generalizing i k j with
 |nil=>exact ah h
 |cons r rs ih=>
  have tail:eV rs i (k+1)=some j->k<=j/\(r::rs)[j-k]? = some (.pl (.var i)):=λh=>by
   obtain⟨h1,h2⟩:=ih h;refine⟨by exact(L1 [k,j] .x .y (.p 1 .x) .y rfl h1),?_⟩;obtain⟨m,rfl⟩:∃m,j=k+1+m:=⟨j-(k+1),by exact(Le [j,k,j-(k+(1:Nat))] (.e .x (.a (.p 1 .y) .z)) [Gq (.a .z (.p 1 .y)) .x] rfl (Zd (n:=j) (m:=k+(1:Nat)) h1))⟩
   refine Er (show k+1+m-k=m+1 from by exact(Le [k+(1:Nat)+m-k,m,k] (.e .x (.p 1 .y)) [Gp (.a .x .z) (.a (.p 1 .z) .y)] rfl (Zd (n:=k+(1:Nat)+m) (m:=k) (L1 [k,m] .x (.a (.p 1 .x) .y) (.p 1 .x) (.a (.p 1 .x) .y) rfl h1)))) (Er (List.getElem?_cons_succ) ?_);rw[show k+1+m-(k+1)=m from by exact(Le [k+(1:Nat)+m-(k+(1:Nat)),m,k] (.e .x .y) [Gp (.a .x (.p 1 .z)) (.a (.p 1 .z) .y)] rfl (Zd (n:=k+(1:Nat)+m) (m:=k+(1:Nat)) h1))]at h2;exact h2
  cases r with
  |fz d=>exact tail h
  |own d=>exact tail h
  |pl p=>
   cases p with
   |var j'=>
    have h:(if j'=i then some k else eV rs i (k+1))=some j:=h
    by_cases q:j'=i
    .rw[Y0 q]at h;refine Er (aI h) ?_;subst q;exact⟨Zi _,by simp⟩
    .rw[Y1 q]at h;exact tail h
theorem md:∀ {rs:List Rv} {j i:Nat},rs[j]? = some (.pl (.var i))->i∈dU rs:=by
 intro rs j i h
 induction rs generalizing j i with
 |nil=>simp at h
 |cons r rs ih=>
  cases j with
  |zero=>simp at h;subst h;exact Zt
  |succ j=>
    have:=ih h;cases r with
    |pl p=>cases p;exact Zu _ this
    |fz _=>exact this
    |own _=>exact this
theorem wd:∀ {rs:List Rv} {j i k:Nat},(dU rs).Nodup->rs[j]? = some (.pl (.var i))->eV rs i k=some (k+j):=by
 intro rs j i k nd h
 induction rs generalizing j i k with
 |nil=>simp at h
 |cons r rs ih=>
  cases j with
  |zero=>simp at h;subst h;exact Y0 rfl
  |succ j=>
    have h':rs[j]? = some (.pl (.var i)):=by exact h
    have e:k+(j+1)=k+1+j:=by exact(Zk (L0 [k,j] (.a .x (.p 1 .y)) (.a (.p 1 .x) .y) rfl) (L0 [k,j] (.a (.p 1 .x) .y) (.a .x (.p 1 .y)) rfl))
    cases r with
    |pl p=>
     cases p with
     |var j'=>
      rw[z5,nodup_cons]at nd;show(if j'=i then some k else eV rs i (k+1))=_
      exact Er (Y1 (λq:j'=i=>nd.1 (by refine Er q ?_;exact md h'))) (Er e (ih nd.2 h'))
    |fz _=>exact Er e (ih nd h')
    |own _=>exact Er e (ih nd h')
noncomputable def frz:Rv->Rv
 |.own d=>.fz d
 |r=>r
def d5 (y:Lay) (own:Addr->Option Nat) (Z:Addr->Prop) (h₀ h:Heap):List Rv->List Value->Prop
 |[],[]=>True
 |r::rs,v::vs=>d6 y own Z h₀ h (frz r) v/\d5 y own Z h₀ h rs vs
 |_,_=>False
theorem d5.one {y:Lay} {own:Addr->Option Nat} {Z:Addr->Prop} {h₀ h:Heap} {r:Rv} {vs:List Value} (R:d5 y own Z h₀ h [r] vs):∃v,vs=[v]/\d6 y own Z h₀ h (frz r) v:=by
 cases vs with
 |nil=>exact R.elim
 |cons v vs=>
  cases vs with
  |nil=>exact⟨v,rfl,R.1⟩
  |cons _ _=>exact R.2.elim
theorem d5.length {own:Addr->Option Nat} :∀ {rs:List Rv} {vs:List Value},d5 y own Z h₀ h rs vs->rs.length=vs.length:=by
 intro rs vs h
 induction rs generalizing vs with
 |nil=>
  cases vs with
  |nil=>exact rfl
  |cons x2 x3=>exact h.elim
 |cons x1 rs ih=>
  cases vs with
  |nil=>exact h.elim
  |cons x4 vs=>exact Er ZH (Er ZH (Er (ih h.2) rfl))
theorem d5.get {own:Addr->Option Nat} :∀ {rs:List Rv} {vs:List Value} {k:Nat} {r:Rv} {v:Value},d5 y own Z h₀ h rs vs->rs[k]? = some r->vs[k]? = some v->d6 y own Z h₀ h (frz r) v:=by
 intro rs vs k x1 x2 h e e'
 induction rs generalizing vs k x1 x2 e' with
 |nil=>
  cases vs with
  |nil=>simp at e
  |cons x3 x4=>exact h.elim
 |cons r rs ih=>
  cases vs with
  |nil=>exact h.elim
  |cons v vs=>
   cases k with
   |zero=>simp at e e';subst e;subst e';exact h.1
   |succ k=>exact ih h.2 e e'
noncomputable def fe (fr:Fm):Rv->Option Slot
 |.fz d=>some (Slot.fz d)
 |.own d=>some (.fz d)
 |.pl (.var i)=>(match fr[i]? with
  |some (.fz d)=>some (.fz d)
  |some (.own d)=>some (.own d)
  |some (.exc c)=>some (.exc c)
  |_=>none)
theorem lS (h:cK fr (r::rs)=some ss):∃sl Hg,ss=sl::Hg/\fe fr r=some sl/\cK fr rs=some Hg:=by
 have h:(match fe fr r,cK fr rs with
  |some s,some ss=>some (s::ss)
  |_,_=>none)=some ss:=by
  cases r with
  |fz d=>exact h
  |own d=>exact h
  |pl p=>cases p;exact h
 cases h1:fe fr r with
 |none=>rw[h1]at h;exact ah h
 |some sl=>
  rw[h1]at h;cases h2:cK fr rs with
  |none=>rw[h2]at h;exact ah h
  |some Hg=>rw[h2]at h;exact Er (aI h).symm ⟨sl,Hg,rfl,rfl,rfl⟩
theorem jj:∀ {rs:List Rv} {ss:List Slot},cK fr rs=some ss->rs.length=ss.length/\ ∀(k:Nat) (r:Rv),rs[k]? = some r-> ∃sl,ss[k]? = some sl/\fe fr r=some sl:=by
 intro rs ss h
 induction rs generalizing ss with
 |nil=>obtain rfl:=aI (show some []=some ss from h);exact⟨rfl,λk r e=>by simp at e⟩
 |cons r rs ih=>
  refine fM (lS h) λsl Hg q=>?_;refine Er q.1 ?_
  have Q:=ih q.2.2;refine⟨by simp[Q.1],λk r' e=>?_⟩;cases k with
  |zero=>simp at e;subst e;exact⟨sl,rfl,q.2.1⟩
  |succ k=>simpa using Q.2 k r' e
set_option tactic.hygienic true in
theorem oC {sl:Slot} (h:fe fr r=some sl) (hl:sl.lent=true):∃i,r = .pl (.var i)/\fr[i]? = some sl:=by
 unfold fe at h
 split at h<;>first
  |(obtain rfl:=aI h;cases hl;done)
  |(rename_i i;refine⟨i,rfl,?_⟩;split at h<;>first|(exact ah h;cases hl;done)|(refine Er (aI h).symm ?_;assumption)|(exact ah h;done))
  |(exact ah h;done)
noncomputable def fB (own:Addr->Option Nat) (rs:List Rv) (a:Addr):Option Nat:=(own a).bind λi=>eV rs i 0
noncomputable def ny (rs:List Rv) (k:Nat):Option Nat:=match rs[k]? with
 |some (.pl (.var i))=>some i
 |_=>none
noncomputable def iD (own cI:Addr->Option Nat) (rs:List Rv) (a:Addr):Option Nat:=match cI a with
 |some k=>ny rs k
 |none=>match own a with
  |some i=>(match eV rs i 0 with
   |some _=>none
   |none=>some i)
  |none=>none
theorem uu {own:Addr->Option Nat} {k:Nat} (h:fB own rs a=some k):∃i,own a=some i/\eV rs i 0=some k:=Option.bind_eq_some_iff.mp h
theorem gR {own:Addr->Option Nat} (h:fB own rs a≠none):own a≠none:=λe=>h (by unfold fB;refine Er e ?_;rfl)
section
variable {y:Lay} {own:Addr->Option Nat} {Z:Addr->Prop} {s s':Shared} {fr:Fm} {rs:List Rv} {ss aK:List Slot} {vs:List Value}
theorem BC (I:Inv y own Z s.heap fr) (rs:List Rv):Gh (λa=>y.F a\/a=y.L) (fB own rs) Z s.heap where
 base:=I.base
 zb:=I.zb
 zo:=λa z=>by unfold fB;refine Er (I.zo a z) ?_;rfl
 zF:=λa z f=>f.elim (I.zF a z) λe=>I.zL (e▸z)
 oF:=λa h f=>f.elim (I.oF a (gR h)) λe=>gR h (e▸I.oL)
 zlv:=I.zlv
 olv:=λa h=>I.olv a (gR h)
 flv:=λa f=>f.elim (I.flv a) λe=>let ⟨m,o,_,_,h,hd,_⟩:=I.nsL;⟨o,e▸h,λvs q=>by have q:=hd▸q;cases q⟩
noncomputable def tV (as:List Nat):List Rv:=as.map λi=>.pl (.var i)
theorem lX (as:List Nat) (rs:List Rv):dU (tV as++rs)=as++dU rs:=by
 induction as with
 |nil=>rfl
 |cons i as ih=>exact Y7 (i :: ·) ih
theorem tU {as:List Nat} {rs:List Rv} {k:Nat} (h:as[k]? = some i):(tV as++rs)[k]? = some (.pl (.var i)):=by
 refine Er (ZM (by unfold tV;exact Er (ZG _) ((List.getElem?_eq_some_iff.mp h).1))) ?_;unfold tV;exact Er ZJ (Er h rfl)
theorem qv {as:List Nat} {rs:List Rv} {k:Nat}:(tV as++rs)[as.length+k]? = rs[k]?:=by
 refine Er (ZL (by exact Er (ZG _) (Zl _ _))) ?_;exact Er (ZG _) (Y7 (rs[·]?) (Zm _ _))
structure vD (y:Lay) (as:List Nat) (J:Ins):Prop where
 len:as.length=j7 J
 at':∀(k i:Nat),as[k]? = some i-> ∃l,jC J k=some l/\y.loc i=some l
 full:∀i l,y.loc i=some l->uY J l.addr-> ∃(k:Nat) (a:Addr) (ns:List Str) (x:Str),as[k]? = some i/\l = .attr a ns x
 si:∀p,y.slf=some p->y.si∉as
 slf:∀x o dx,J=some (x,o,dx)->y.slf=some (x,o)/\(∃c C,tb.cr=some c/\mg c.name=some (.ref C)/\o.cls = .ref C)/\(∀c,o.data≠ .cls c)/\o.dict=some dx/\dx≠x/\ ∃i a,y.loc i=some (.attr dx tb.an a)
theorem qp {as:List Nat} {J:Ins} (I:Inv y own Z s.heap fr) (q:vD y as J) (rs:List Rv):sA (λa=>y.F a\/a=y.L) (fB own rs) Z s.heap J:=λx o dx e=>by
 refine ag λG g=>?_
 obtain⟨e1,e2,e3,e4,e5,i,a,hl⟩:=q.slf x o dx e;exact g (⟨(I.sf _ e1).z,(I.sf _ e1).ob,e2,e3,e4,e5,I.zl i _ hl,by unfold fB;exact Er (I.ol i _ hl) rfl,λf=>f.elim (I.wf.nf i _ hl) (I.wf.al i _ _ _ hl),I.ok i _ hl⟩)
theorem mX {as:List Nat} {fr:Fm} {k:Nat} {sl:Slot} (h:(er fr as)[k]? = some sl) (n:sl≠ .no):∃i,as[k]? = some i/\fr[i]? = some sl:=by
 unfold er at h;rw[ZJ]at h;refine aX (Z9 h) λi Q=>?_;have hi:=Q.1;have e:=Q.2
 refine⟨i,hi,?_⟩;cases q:fr[i]? with
 |none=>rw[q]at e;exact absurd e.symm n
 |some x=>rw[q]at e;exact Y7 some e
set_option tactic.hygienic true in
theorem sd {as:List Nat} {J:Ins} (I:Inv y own Z s.heap fr) (hr:d5 y own Z h₀ s.heap rs vs) (hs:cK fr rs=some ss) (nd:(as++dU rs).Nodup) (q:vD y as J):hO J (fB own (tV as++rs)) Z s.heap (er fr as++ss) vs:=by
 obtain⟨da,rH⟩:=jj hs;have MJ:(dU (tV as++rs)).Nodup:=by rw[lX];exact nd
 have la:(er fr as).length=j7 J:=by unfold er;exact Er (ZG _) q.len
 have mo:∀ {i k:Nat},(tV as++rs)[k]? = some (.pl (.var i))-> ∀a,own a=some i->fB own (tV as++rs) a=some k:=λhk a e=>by
  unfold fB;refine Er e ?_;show eV _ _ 0=_;refine Er (wd MJ hk) ?_;rw[Nat.zero_add]
 refine⟨by exact Er ZI (Er la (Er da.symm (Er hr.length rfl))),λk sl l e hl n=>?_,λk sl v e e'=>?_⟩
 .have hk:=(eC hl).1
  rw[ZM (by refine Er la ?_;exact hk)]at e;refine ag λG g=>?_
  obtain⟨i,hi,hf⟩:=mX e n;obtain⟨l',cz,hy⟩:=q.at' k i hi;rw[hl]at cz;obtain rfl:=aI cz;obtain⟨l2,v,rG,Ld,sv⟩:=I.at' i sl hf n;rw[hy]at rG;obtain rfl:=aI rG;exact g (⟨v,Ld,sv.mono (λaa aA bF e=>e) (λaa z=>z) (mo (tU hi)) λaa aA bF e=>e⟩)
 .have e:=la.symm▸e;rw[ZL (Zl _ _),Zm]at e
  have hk:k<rs.length:=by exact Er da ((List.getElem?_eq_some_iff.mp e).1)
  obtain⟨qU,e2,h2⟩:=rH k _ (ZK hk);have e2:=e▸e2;refine Er (aI e2) ?_;have q1:=hr.get (ZK hk) e';generalize Oc:rs[k]=r at *;have La:rs[k]? = some r:=by exact Er (ZK hk) (Er Oc rfl)
  cases r with
  |fz d=>obtain rfl:=aI h2;exact⟨(λn=>by cases n),q1⟩
  |own d=>obtain rfl:=aI h2;exact⟨(λn=>by cases n),q1⟩
  |pl p=>
   cases p with
   |var i=>
    obtain⟨l,q1⟩:=q1;have hl:=q1.1;have hv:=q1.2;have key:∀sl,fr[i]? = some sl->sl≠ .no->dA s.heap Z (λa=>own a=some i) sl v:=λsl e n=>by
     obtain⟨l',v',cz,EL,q⟩:=I.at' i sl e n;rw[hl]at cz;obtain rfl:=aI cz;exact Er (hv.det EL) q
    have mo:=mo (i:=i) (k:=j7 J+k) (by refine Er q.len.symm (Er qv ?_);exact La);simp only[fe]at h2
    split at h2
    .rename_i d e9;exact Er (aI h2).symm (⟨(λn=>by cases n),key _ e9 (by intro n;cases n)⟩)
    .rename_i d e9;obtain rfl:=aI h2;exact⟨(λn=>by cases n),(key _ e9 (by intro n;cases n)).mono (λaa aA bF e=>e) (λaa z=>z) mo λaa aA bF e=>e⟩
    .rename_i e9;obtain rfl:=aI h2;exact⟨(λn=>by cases n),(key _ e9 (by intro n;cases n)).mono (λaa aA bF e=>e) (λaa z=>z) mo λaa aA bF e=>e⟩
    .exact ah h2
theorem ch {m:Str->Option Value} (hn:h.Ns a m) (k:∀o,h.get? a=some o-> ∃sl,h'.get? a=some {o with slots:=sl}):h'.Ns a m:=by
 exact iM hn λo es ep hn=>(aX (k o hn.1) λsl e=>(⟨_,es,ep,e,hn.2⟩))
theorem qj:∀ {rs:List Rv} {ss aK:List Slot} {vs:List Value} {fr:Fm} {k j:Nat} {sl:Slot},f7 ae Z' h k ss vs aK->rs.length=ss.length->ss.length=vs.length->
  (∀(m:Nat) (r:Rv) (sl:Slot),rs[m]? = some r->ss[m]? = some sl->sl.lent=true-> ∃i,r = .pl (.var i))->(cO fr rs ss aK)[j]? = some sl->
  (∃(m:Nat) (s0:Slot) (v:Value),rs[m]? = some (.pl (.var j))/\ss[m]? = some s0/\s0.lent=true/\vs[m]? = some v/\(sl≠ .no->dA h Z' (λa=>ae a=some (k+m)) sl v))\/(fr[j]? = some sl/\((dU rs).Nodup-> ∀(m:Nat) (s0:Slot),rs[m]? = some (.pl (.var j))->ss[m]? = some s0->s0.lent=false)):=by
 intro rs ss aK vs fr k j sl O h h9 hl e
 induction rs generalizing ss aK vs fr k j sl O h9 with
 |nil=>
   refine .inr ⟨?_,λaa m s0 e=>by simp at e⟩;cases ss with
   |nil=>exact e
   |cons x1 x2=>exact absurd h.symm (Nat.succ_ne_zero _)
 |cons r rs ih=>
  cases ss with
  |nil=>simp at h
  |cons s0 ss=>
   cases vs with
   |nil=>simp at h9
   |cons v vs=>
     have Nj:rs.length=ss.length:=by simpa using h
     have Nh:ss.length=vs.length:=by simpa using h9
     have cz:∀(m:Nat) (r:Rv) (sl:Slot),rs[m]? = some r->ss[m]? = some sl->sl.lent=true-> ∃i,r = .pl (.var i):=λm r sl e1 e2=>hl (m+1) r sl e1 e2
     rw[qA]at O;rw[ve]at e
     by_cases q:s0.lent=true
     .rw[Y0 q]at O
      obtain⟨o,os,O⟩:=O;obtain rfl:=O.1;refine aX (hl 0 r s0 rfl rfl q) λi Q=>?_;subst Q
      rw[Y0 q]at e;dsimp only at e
      rcases ih O.2.2 Nj Nh cz e with⟨m,s1,v',a1,a2,a3,a4,a5⟩|⟨a1,a2⟩
      .exact .inl ⟨m+1,s1,v',by exact a1,by exact a2,a3,by exact a4,λn=>by have:=a5 n;rwa [show k+1+m=k+(m+1) from by exact(Zk (L0 [k,m] (.a (.p 1 .x) .y) (.a .x (.p 1 .y)) rfl) (L0 [k,m] (.a .x (.p 1 .y)) (.a (.p 1 .x) .y) rfl))]at this⟩
      .rcases dQ a1 with⟨rfl,rfl⟩|⟨df,a1⟩
       .exact .inl ⟨0,s0,v,rfl,rfl,q,rfl,O.2.1⟩
       .refine .inr ⟨a1,λnd m s1 e1 e2=>?_⟩
        refine ag λG2 g2=>?_
        cases m with
        |zero=>refine g2 ?_;cases Y9 (show some (Rv.pl (.var _))=some (Rv.pl (.var _)) from e1);exact absurd rfl df
        |succ m=>exact g2 (a2 (nodup_cons.mp nd).2 m s1 e1 e2)
     .rw[Y1 q]at O e
      rcases ih O Nj Nh cz e with⟨m,s1,v',a1,a2,a3,a4,a5⟩|⟨a1,a2⟩
      .exact .inl ⟨m+1,s1,v',by exact a1,by exact a2,a3,by exact a4,λn=>by have:=a5 n;rwa [show k+1+m=k+(m+1) from by exact(Zk (L0 [k,m] (.a (.p 1 .x) .y) (.a .x (.p 1 .y)) rfl) (L0 [k,m] (.a .x (.p 1 .y)) (.a (.p 1 .x) .y) rfl))]at this⟩
      .refine .inr ⟨a1,λnd m s1 e1 e2=>?_⟩
       refine ag λG3 g3=>?_
       cases m with
       |zero=>refine g3 ?_;simp at e2;subst e2;simpa using q
       |succ m=>
        refine g3 ?_;refine a2 ?_ m s1 e1 e2;refine ag λG g=>?_
        cases r with
        |pl p=>
         refine g ?_;refine ag λG1 g1=>?_
         cases p with
         |var i=>exact g1 (nodup_cons.mp nd).2
        |fz _=>exact g nd
        |own _=>exact g nd
set_option tactic.hygienic true in
theorem jx {own cI:Addr->Option Nat} {rs:List Rv} (h:iD own cI rs a=some i):(∃k,cI a=some k/\rs[k]? = some (.pl (.var i)))\/(cI a=none/\own a=some i/\eV rs i 0=none):=by
 unfold iD at h;refine ag λG g=>?_
 split at h
 .refine g ?_
  rename_i k hk;unfold ny at h
  split at h
  .rename_i j hj;exact Er (aI h).symm (.inl ⟨k,hk,hj⟩)
  .exact ah h
 .refine g ?_
  rename_i hk
  split at h
  .rename_i j hj
   split at h
   .exact ah h
   .rename_i hp;exact Er (aI h).symm (.inr ⟨hk,hj,hp⟩)
  .exact ah h
theorem ky:∀ {as:List Nat} {aK:List Slot} {fr:Fm} {j:Nat} {sl:Slot},as.Nodup->as.length<=aK.length->(dJ fr as aK)[j]? = some sl->(∃k:Nat,as[k]? = some j/\aK[k]? = some sl)\/(j∉as/\fr[j]? = some sl):=by
 intro as
 induction as with
 |nil=>intro aK fr j sl _ _ h;exact .inr ⟨(λq=>by cases q),by cases aK<;>exact h⟩
 |cons i as ih=>
  intro aK fr j sl nd hl h;cases aK with
  |nil=>exact absurd hl (Nat.not_succ_le_zero _)
  |cons o os=>
   rcases ih (nodup_cons.mp nd).2 (Nat.le_of_succ_le_succ hl) (show(dJ (fr.set i o) as os)[j]? = some sl from h) with⟨k,h1,h2⟩|⟨h1,h2⟩
   .exact .inl ⟨k+1,h1,h2⟩
   .rcases dQ h2 with⟨rfl,rfl⟩|⟨df,h2⟩
    .exact .inl ⟨0,rfl,rfl⟩
    .exact .inr ⟨λq=>(mem_cons.mp q).elim df h1,h2⟩
noncomputable def sM (rb as:List Nat):List Nat:=rb.filterMap λk=>as[k]?
theorem nE {as:List Nat} (h:i∈sM rb as):i∈as:=by
 obtain⟨k,_,e⟩:=mem_filterMap.mp h;exact Zs e
theorem mM {as:List Nat} {J:Ins} {iL:Except Str Rv} {r:Result} (I:Inv y own Z s.heap fr) (hr:d5 y own Z h₀ s.heap rs vs) (hs:cK fr rs=some ss) (nd:(as++dU rs).Nodup) (q:vD y as J)
  (P:d7 J rb (λa=>y.F a\/a=y.L) (fB own (tV as++rs)) Z s (er fr as++ss) vs iL aK r s'):
  ∃ae Z',Inv y ae Z' s'.heap (cO (dJ fr as aK) rs ss (aK.drop as.length))/\Step y (sM rb as) own Z s ae Z' s'/\((∃rv v,iL = .ok rv/\r = .ok (.ret v)/\d6 y ae Z' s.heap s'.heap rv v)\/
   ∃nm a,iL = .error nm/\r = .error (.ref a)/\iv s'.heap (λb=>s.heap.get? b=none/\ ¬y.wr ae b/\ ¬y.F b/\ ¬Z' b) a nm):=by
 obtain⟨cI,Z',G,IJ,S,AT,jn,O,R⟩:=P;have MJ:(dU (tV as++rs)).Nodup:=by rw[lX];exact nd
 have N1:as.Nodup:=(nodup_append.mp nd).1;have N0:(dU rs).Nodup:=(nodup_append.mp nd).2.1;have OO:∀i,i∈dU rs->i∉as:=λi h1 h2=>(nodup_append.mp nd).2.2 i h2 i h1 rfl
 have la:(er fr as).length=as.length:=by unfold er;exact ZG _
 have u:=jj hs;have da:=u.1;have rH:=u.2;have Iw:ss.length=vs.length:=by exact Er da.symm (Er hr.length rfl)
 rw[<- q.len,<- la,List.drop_left]at O;rw[la]at O;have OW:=qp I q (tV as++rs);have dz:∀a,uY J a-> ¬Z a:=λa ⟨x,o,e⟩=>(OW x o a e).zd
 have Nt:∀(k i:Nat) l,as[k]? = some i->y.loc i=some l->jC J k=some l:=λk i l e hl=>by
  obtain⟨l',h1,h2⟩:=q.at' k i e;rw[hl]at h2;obtain rfl:=aI h2;exact h1
 generalize hR:tV as++rs=RS at *;have Nw:∀(k i:Nat),as[k]? = some i->RS[k]? = some (.pl (.var i)):=λk i e=>hR▸tU e
 have Nv:∀k:Nat,RS[as.length+k]? = rs[k]?:=λk=>hR▸qv
 -- GN stays
 have nwr:∀a,own a=none-> ¬uY J a-> ¬(fB own RS a≠none\/uY J a):=λa e n w=>w.elim (λw=>gR w e) n
 have keep:∀a o,s.heap.get? a=some o->own a=none-> ¬y.F a->a≠y.L-> ¬uY J a->s'.heap.get? a=some o:=λa o e n f l nx=>S.ext.keep a o e (nwr a n nx) λw=>w.elim f l
 have HW:∀a o,s.heap.get? a=some o->fB own RS a=none-> ¬y.F a->a≠y.L-> ¬uY J a->s'.heap.get? a=some o:=λa o e n f l nx=>S.ext.keep a o e (λw=>w.elim (λw=>w n) nx) λw=>w.elim f l
 have keepZ:∀a o,Z a->s.heap.get? a=some o->s'.heap.get? a=some o:=λa o z e=>keep a o e (I.zo a z) (I.zF a z) (λq=>I.zL (q▸z)) λx=>dz a x z
 have vT:∀o,s.heap.get? y.L=some o-> ∃sl,s'.heap.get? y.L=some {o with slots:=sl}:=λo e=>S.ext.fram y.L o (.inr rfl) e
 have NZ:∀a,own a≠none-> ¬uY J a:=λa h ⟨x,o,e⟩=>by
  obtain⟨_,_,_,_,_,i,z,hl⟩:=q.slf x o a e;exact h (I.ol i _ hl)
 have vF:∀i l v,i∉sM rb as->y.loc i=some l->eG s.heap l v->eG s'.heap l v:=λi l v hb hl hv=>by
  by_cases hx:uY J l.addr
  .obtain⟨k,_,_,_,hk,_⟩:=q.full i l hl hx
   exact S.bind k l v (λm=>hb (mem_filterMap.mpr ⟨k,m,hk⟩)) (Nt k i l hk hl) hv
  by_cases e:l.addr=y.L
  .cases l with
   |dict a x=>
    obtain⟨m,hv⟩:=hv;subst e;exact⟨m,ch hv.1 vT,hv.2⟩
   |cell a=>exact absurd e (I.wf.cl i a hl)
   |attr a ns x=>exact absurd e (I.wf.al i a ns x hl)
  .exact hv.keeps λo e'=>keep _ o e' (I.ol i l hl) (I.wf.nf i l hl) e hx
 have Ei:∀i l,y.loc i=some l->nI s.heap l->nI s'.heap l:=λi l hl hv=>by
  by_cases hx:uY J l.addr
  .obtain⟨k,a,ns,x,hk,rfl⟩:=q.full i l hl hx
   have h1:=Nt k i _ hk hl;obtain⟨x0,o0,hJ⟩:=hx;subst hJ;obtain⟨z,_,e⟩:=Z9 h1;cases e;exact(IJ x0 o0 _ rfl).ok
  by_cases e:l.addr=y.L
  .cases l with
   |dict a x=>
    obtain⟨m,hn⟩:=hv;subst e;exact⟨m,ch hn vT⟩
   |cell a=>exact absurd e (I.wf.cl i a hl)
   |attr a ns x=>exact absurd e (I.wf.al i a ns x hl)
  .exact hv.keeps λo e'=>keep _ o e' (I.ol i l hl) (I.wf.nf i l hl) e hx
 have nN:∀a o,s.heap.get? a=some o->fB own RS a=none->cI a=none:=λa o e n=>by
  cases q:cI a with
  |none=>rfl
  |some k=>
   rcases S.on a k q with q|q
   .rw[n]at q;exact ah q
   .have q:=e▸q;cases q
 have oB:∀a i,iD own cI RS a=some i->own a=some i\/s.heap.get? a=none:=λa i q=>by
  rcases jx q with⟨k,hk,hj⟩|⟨_,q,_⟩
  .rcases S.on a k hk with q|q
   .refine aX (uu q) λi' U=>?_
    obtain⟨_,h2⟩:=lY U.2;rw[Nat.sub_zero]at h2;have h2:=hj▸h2;cases h2;exact .inl U.1
   .exact .inr q
  .exact .inl q
 have KQ:∀a,iD own cI RS a≠none->cI a≠none\/(fB own RS a=none/\own a≠none):=λa q=>by
  cases e:iD own cI RS a with
  |none=>exact absurd e q
  |some i=>
   rcases jx e with⟨k,hk,_⟩|⟨_,h,hp⟩
   .exact .inl (by refine Er hk ?_;exact λn=>by cases n)
   .exact .inr ⟨by unfold fB;refine Er h ?_;exact hp,by refine Er h ?_;exact λn=>by cases n⟩
 have zn:∀a,Z' a->Z a\/own a≠none\/s.heap.get? a=none:=λa z=>(S.zn a z).imp id λq=>q.imp gR id
 have NJ:∀p,y.slf=some p->y.si∉sM rb as:=λp e m=>q.si p e (nE m)
 have inv:Inv y (iD own cI RS) Z' s'.heap (cO (dJ fr as aK) rs ss (aK.drop as.length)):=by
  refine⟨I.wf,G.base,G.zb,λa z=>?_,λi l hl z=>?_,λi l hl=>?_,λz=>?_,?_,λa z f=>G.zF a z (.inl f),λa q f=>?_,G.zlv,λa q=>?_,λa f=>G.flv a (.inl f),λi l hl=>Ei i l hl (I.ok i l hl),?_,λp e=>(I.sf p e).mono keepZ S.zm λl v hl r=>vF _ l v (NJ p e) hl r,λj sl e n=>?_⟩
  .-- zo
   cases q:iD own cI RS a with
   |none=>rfl
   |some i=>
    rcases jx q with⟨k,hk,_⟩|⟨hN,ho,hp⟩
    .rw[G.zo a z]at hk;exact ah hk
    .rcases S.zn a z with z|z|z
     .rw[I.zo a z]at ho;exact ah ho
     .exact absurd (by unfold fB;refine Er ho ?_;exact hp) z
     .obtain⟨o,e⟩:=I.olv a (by refine Er ho ?_;exact λn=>by cases n);rw[z]at e;exact ah e
  .-- zl
   obtain⟨o,e⟩:=(I.ok i l hl).live
   rcases S.zn _ z with z|z|z
   .exact I.zl i l hl z
   .exact gR z (I.ol i l hl)
   .rw[z]at e;exact ah e
  .-- ol
   cases q:iD own cI RS l.addr with
   |none=>rfl
   |some k=>
    obtain⟨o,e⟩:=(I.ok i l hl).live
    rcases oB _ _ q with q|q
    .rw[I.ol i l hl]at q;exact ah q
    .rw[q]at e;exact ah e
  .exact G.zF _ z (.inr rfl)
  .cases q:iD own cI RS y.L with
   |none=>rfl
   |some k=>
    refine lM I.nsL λm o aa aA Q=>?_;have e:=Q.1
    rcases oB _ _ q with q|q
    .rw[I.oL]at q;exact ah q
    .rw[q]at e;exact ah e
  .rcases KQ a q with q|⟨q,q'⟩
   .exact G.oF a q (.inl f)
   .exact I.oF a q' f
  .rcases KQ a q with q|⟨q,q'⟩
   .exact G.olv a q
   .obtain⟨o,e⟩:=I.olv a q';exact S.ext.live a o e
  .obtain⟨m,hn⟩:=I.nsL;exact⟨m,ch hn vT⟩
  .-- the slots
   rcases qj O da Iw (λm r sl e1 e2 hl=>by
    obtain⟨qU,e3,h3⟩:=rH m r e1;rw[e2]at e3;obtain rfl:=aI e3;obtain⟨i,J⟩:=oC h3 hl;exact⟨i,J.1⟩) e with⟨m,s0,v',a1,a2,a3,a4,a5⟩|⟨a1,a2⟩
   .have q1:=hr.get a1 a4
    refine aX q1 λl q1=>?_
    refine⟨l,v',q1.1,vF j l v' (λm=>OO j (md a1) (nE m)) q1.1 q1.2,(a5 n).mono (λaa aA bF e=>e) (λaa z=>z) (λb hb=>?_) λaa aA bF e=>e⟩;unfold iD;refine Er hb ?_;dsimp only;unfold ny;exact Er (Nv m) (Er a1 rfl)
   rcases ky N1 (q.len▸jn) a1 with⟨k,hk,ho⟩|⟨hj,a1⟩
   .obtain⟨l,hl,hy⟩:=q.at' k j hk
    obtain⟨v,hv,sv⟩:=AT k sl l ho hl n;refine⟨l,v,hy,hv,sv.mono (λaa aA bF e=>e) (λaa z=>z) (λb hb=>?_) λaa aA bF e=>e⟩;unfold iD;refine Er hb ?_;dsimp only;unfold ny;exact Er (Nw k j hk) rfl
   .obtain⟨l,v',hl,hv,q1⟩:=I.at' j sl a1 n
    refine⟨l,v',hl,vF j l v' (λm=>hj (nE m)) hl hv,?_⟩;cases sl with
    |no=>exact absurd rfl n
    |fz d=>exact b5.mono keepZ S.zm q1
    |own d=>
     obtain⟨a,q1⟩:=q1;refine Er q1.1 ?_;have B8:own a=some j:=q1.2.1;refine aX q1.2.2.live λo ho=>?_
     have hp:eV RS j 0=none:=by
      cases qq:eV RS j 0 with
      |none=>rfl
      |some m=>
       obtain⟨_,h2⟩:=lY qq;rw[Nat.sub_zero]at h2
       by_cases hm:m<as.length
       .have:=Nw m _ (ZK hm)
        rw[this]at h2;cases h2;exact absurd (getElem_mem hm) hj
       .obtain⟨m',rfl⟩:=Nat.exists_eq_add_of_le (Nat.not_lt.mp hm)
        rw[Nv]at h2;obtain⟨s1,e1,h1⟩:=rH m' _ h2;have:s1 = .own d:=by simp only[fe,a1]at h1;exact(Y9 h1).symm
        subst this;exact absurd (a2 N0 m' _ h2 e1) (by intro q;cases q)
     have hC:fB own RS a=none:=by unfold fB;exact Er B8 hp
     have MF:own a≠none:=by rw[B8];exact λn=>by cases n
     refine⟨a,rfl,?_,q1.2.2.mono keepZ S.zm λo e=>HW a o e hC (I.oF a MF) (λq=>by rw[q,I.oL]at B8;exact ah B8) (NZ a MF)⟩;show iD own cI RS a=some j
     unfold iD;refine Er (nN a o ho hC) (Er B8 ?_);dsimp only;exact Er hp rfl
    |exc k=>exact dA.mono (sl:=.exc k) (O:=λaa=>False) keepZ S.zm (λaa f=>f.elim) (λaa aA f=>f.elim) q1
 have MH:∀a,s.heap.get? a=none->cI a=none-> ¬y.wr (iD own cI RS) a:=λa e0 on wr=>by
  have f:=I.fresh e0
  rcases wr with wr|wr|wr
  .rcases KQ a wr with q|⟨_,q⟩
   .exact q on
   .exact f.1 (.inl q)
  .exact f.1 (.inr (.inl wr))
  .exact f.1 (.inr (.inr wr))
 refine⟨iD own cI RS,Z',inv,⟨S.sh,⟨λa o e nw nf=>?_,S.ext.live,λa o f e=>S.ext.fram a o (.inl f) e⟩,S.zm,zn,oB,λi l v hb hl hv=>vF i l v hb hl hv⟩,?_⟩
 .refine keep a o e ?_ nf (λq=>nw (.inr (.inl q))) λ⟨x,o',hJ⟩=>?_
  .cases q:own a with
   |none=>rfl
   |some i=>exact absurd (.inl (by refine Er q ?_;exact λn=>by cases n)) nw
  .obtain⟨_,_,_,_,_,i,z,hl⟩:=q.slf x o' a hJ
   exact nw (.inr (.inr ⟨i,_,hl,rfl⟩))
 .rcases R with⟨rv,v,e1,e2,R⟩|⟨nm,a,e1,e2,X⟩
  .refine .inl ⟨rv,v,e1,e2,?_⟩
   cases rv with
   |fz d=>exact R
   |own d=>
    obtain⟨a,R⟩:=R;refine Er R.1 ?_;exact⟨a,rfl,R.2.1,MH a R.2.1 R.2.2.1,λq=>R.2.2.2.1 (.inl q),R.2.2.2.2.1,R.2.2.2.2.2⟩
   |pl p=>exact R.elim
  .exact .inr ⟨nm,a,e1,e2,X.mono λb _ _ ⟨h1,h2,h3,h4⟩=>⟨h1,MH b h1 h2,λq=>h3 (.inl q),h4⟩⟩
end
inductive aV {β:Type} (y:Lay) (bv:List Nat) (own:Addr->Option Nat) (Z:Addr->Prop) (s:Shared) (out:Except Str β×Fm) (e:Value) (s':Shared):Prop
 |mk (nm:Str) (a:Addr) (ae:Addr->Option Nat) (Z':Addr->Prop):out.1 = .error nm->e = .ref a->Inv y ae Z' s'.heap out.2->Step y bv own Z s ae Z' s'->iv s'.heap (λb=>s.heap.get? b=none/\ ¬y.wr ae b/\ ¬y.F b/\ ¬Z' b) a nm->aV y bv own Z s out e s'
section
variable {y:Lay} {bv bv':List Nat} {own ac:Addr->Option Nat} {Z aw:Addr->Prop} {s s₁ s':Shared} {e:Value}
theorem aV.elim {p:Prop} {r:β} {f:Fm} (x:aV y bv own Z s ((.ok r:Except Str β),f) e s'):p:=by
 obtain⟨_,_,_,_,q,_⟩:=x;exact CF q
theorem aV.up {f:Fm} (hb:∀i∈bv,i∈bv') (S:Step y bv' own Z s ac aw s₁) (x:aV y bv ac aw s₁ ((.error nm:Except Str β),f) e s'):aV y bv' own Z s ((.error nm:Except Str γ),f) e s':=by
 refine ag λG g=>?_
 obtain⟨Ai,a,ae,Z',q,e1,I,S',X⟩:=x;cases q;exact g (⟨_,a,ae,Z',rfl,e1,I,S.trans (S'.sub hb),X.mono λb aa aA h=>⟨S.old b h.1,h.2⟩⟩)
theorem aV.sub {out:Except Str β×Fm} (hb:∀i∈bv,i∈bv') (S:Step y bv' own Z s ac aw s₁) (x:aV y bv ac aw s₁ out e s'):aV y bv' own Z s out e s':=by
 obtain⟨nm,a,ae,Z',q,e1,I,S',X⟩:=x;exact⟨nm,a,ae,Z',q,e1,I,S.trans (S'.sub hb),X.mono λb aa aA h=>⟨S.old b h.1,h.2⟩⟩
end
structure Rn (A:Around) (c:cR) (n:Nat):Prop where
 gd:Gd c.glob
 cs:qE n c.call
 dep:A.depth+2*n+1<=999
 un:A.units+8*n+4<=4000
 hh:c.hd=false->A.handled=none
section
variable {c:cR}
theorem uX:∀ {es:List Ex} {fr cT:Fm} {r:Rv},jR c es fr=some (.ok r,cT)-> ∃d,bQ r=some d:=by
 intro x1 fr cT r h
 induction x1 generalizing fr cT r with
 |nil=>exact ah h
 |cons e x2 ih=>
  cases x2 with
  |nil=>
    rw[gZ]at h;refine ag λG g=>?_
    rcases be h with⟨_,_,_,q⟩|⟨a,f,_,q⟩
    .refine g ?_
     cases q
    .refine g ?_
     split at q
     .exact ah q
     .obtain⟨rfl,rfl⟩:=sU q;exact⟨_,by assumption⟩
  |cons e' es=>
    rw[fW]at h
    rcases be h with⟨_,_,_,q⟩|⟨a,f,_,q⟩
    .cases q
    .split at q
     .exact ah q
     .split at q
      .exact ih q
      .obtain⟨rfl,rfl⟩:=sU q;exact⟨_,by assumption⟩
theorem yl:∀ {es:List Ex} {fr cT:Fm} {r:Rv},qf c es fr=some (.ok r,cT)-> ∃d,bQ r=some d:=by
 intro x1 fr cT r h
 induction x1 generalizing fr cT r with
 |nil=>exact ah h
 |cons e x2 ih=>
  cases x2 with
  |nil=>
    rw[i7]at h;refine ag λG g=>?_
    rcases be h with⟨_,_,_,q⟩|⟨a,f,_,q⟩
    .refine g ?_
     cases q
    .refine g ?_
     split at q
     .exact ah q
     .obtain⟨rfl,rfl⟩:=sU q;exact⟨_,by assumption⟩
  |cons e' es=>
    rw[gY]at h
    rcases be h with⟨_,_,_,q⟩|⟨a,f,_,q⟩
    .cases q
    .split at q
     .exact ah q
     .split at q
      .obtain⟨rfl,rfl⟩:=sU q;exact⟨_,by assumption⟩
      .exact ih q
def VO (m:cA Rv):Prop:= ∀r cT,m=some (.ok r,cT)-> ∃d,bQ r=some d
namespace VO
variable {fr:Fm}
theorem no:VO none:=λaa aA h=>ah h
theorem fz {d:D}:VO (some (.ok (.fz d),fr)):=λaa aA h=>by obtain⟨rfl,rfl⟩:=sU h;exact⟨_,rfl⟩
theorem own {d:D}:VO (some (.ok (.own d),fr)):=λaa aA h=>by obtain⟨rfl,rfl⟩:=sU h;exact⟨_,rfl⟩
theorem err {e:Str}:VO (some (.error e,fr)):=λaa aA h=>by cases h
theorem bd {m:cA α} {k:α->Fm->cA Rv} (h:∀a fr,VO (k a fr)):VO (aT m k):=by
 rcases m with _|⟨_|a,f⟩
 .exact no
 .exact err
 .exact h a f
theorem bdC {cl:List Nat} {m:cA α} {k:α->Fm->cA Rv} (h:∀a fr,VO (k a fr)):VO (tS cl m k):=by
 rcases m with _|⟨_|a,f⟩
 .exact no
 .exact err
 .exact h a f
theorem okv {m:Option Rv}:VO (rg fr m):=by
 rcases m with _|⟨_|_|_⟩
 .exact no
 .exact fz
 .exact own
 .exact no
theorem okf {f:α->D} {m:Option α}:VO (nH fr (m.map λa=>Rv.fz (f a))):=by
 cases m with
 |none=>exact no
 |some a=>exact fz
theorem okl {f:α->D} {m:Option α}:VO (nH fr (m.map λa=>Rv.own (f a))):=by
 cases m with
 |none=>exact no
 |some a=>exact own
theorem it {p:Prop} [Decidable p] {a b:cA Rv} (h:VO a) (k:VO b):VO (if p then a else b):=by
 by_cases q:p
 .exact Er (Y0 q) h
 .exact Er (Y1 q) k
theorem self:VO (match bQ r with|none=>none|some _=>some (.ok r,fr)):=by
 rcases r with _|_|_
 .exact fz
 .exact own
 .exact no
theorem o1 {o:Option α} {F:Option α->cA Rv} (h:∀a,VO (F (some a))) (k:VO (F none)):VO (F o):=by
 cases o with
 |none=>exact k
 |some a=>exact h a
end VO
theorem qs {as:List Nat} :VO (fI c f as rs fr):=by
 unfold fI;cases cK fr rs with
 |none=>exact .no
 |some ss=>
  refine .it ?_ .no
  rcases c.call c.hd f (er fr as++ss) with _|⟨_|r,o⟩
  .exact .no
  .exact .err
  .exact .self
theorem vq {ds:List D} :VO (fk c f ds r fr):=by
 cases r with
 |own d=>
  unfold fk;dsimp only
  rcases hq:c.call c.hd f (List.map Slot.fz ds++[Slot.own d]) with _|⟨_|r,o⟩
  .exact .no
  .exact .err
  .exact .self
 |fz d=>exact .no
 |pl p=>exact .no
set_option tactic.hygienic true in
theorem CB (x:Ex) (fr:Fm) (hx:∀p,x≠ .pl p):VO (ev c x fr):=by
 cases x with
 |lit d=>exact .fz
 |gl k=>rw[qd];cases c.glob[k]? with
  |none=>exact .no
  |some d=>exact .fz
 |var i=>rw[jH];rcases fr[i]? with _|⟨_|_|_|_|_⟩<;>first|exact .no|exact .fz
 |pl p=>exact absurd rfl (hx p)
 |tup es=>exact .bd λaa aA=>.okf
 |list es=>exact .bd λaa aA=>.okl
 |op2 o a b=>
  exact .bd λx aa=>.bd λy fr=>by
   cases cj fr x<;>cases cj fr y<;>first|exact .no|exact .okv
 |neg a=>exact .bd λx aa=>by cases bQ x<;>first|exact .no|exact .okf (f:=id)
 |not a=>exact .bd λx fr=>by cases cj fr x<;>first|exact .no|exact .fz
 |cmp o a b=>
  exact .bd λx aa=>.bd λy fr=>by
   cases cj fr x<;>cases cj fr y<;>first|exact .no|exact .okf
 |cmp2 o p a b e=>
  exact .bd λx aa=>.bd λy fr=>by
   cases bQ x<;>cases bQ y<;>first|exact .no|skip
   rename_i d d';show VO (match au o d d' with|none=>none|some t=>_)
   cases au o d d' with
   |none=>exact .no
   |some t=>exact .it (.bd λz fr=>by cases bQ z<;>first|exact .no|exact .okf) .fz
 |and es=>exact λaa aA h=>uX h
 |or es=>exact λaa aA h=>yl h
 |ite t a b=>
  exact .bd λx fr=>by
   cases cj fr x<;>first|exact .no|exact .it (.bd λaa aA=>.self) (.bd λaa aA=>.self)
 |idx a i=>
  exact .bd λx aa=>.bd λy fr=>by
   cases cj fr x<;>cases bQ y<;>first|exact .no|exact .okf (f:=id)
 |slc a l u=>
  exact .bd λx aa=>.bd λy aa=>.bd λz fr=>by
   cases cj fr x<;>cases bQ y<;>cases bQ z<;>first|exact .no|exact .okv
 |call f args=>exact .bd λaa aA=>qs
 |mcall f as args=>exact .bd λaa aA=>qs
 |callw f args e=>
  exact .bd λrs fr=>by
   cases b9 rs with
   |none=>exact .no
   |some ds=>exact .bd λaa aA=>vq
 |pop p=>
  rw[rR];cases cb fr p with
  |none=>exact .no
  |some o=>
   show VO (match pc o with|some q=>_|none=>none)
   cases pc o with
   |none=>exact .no
   |some q=>
    show VO (match we q with|some x=>_|none=>none)
    cases we q with
    |none=>exact .no
    |some x=>exact .fz
 |bi b args=>exact .it .no (.bd λrs fr=>by cases lI fr rs<;>first|exact .no|exact .okv)
 |comp cq t it b8 ay=>
  exact .it .no (.bd λrs fr=>by
   cases b9 rs with
   |none=>exact .no
   |some ds=>
    show VO (match bG it ds with|none=>none|some items=>_)
    cases bG it ds with
    |none=>exact .no
    |some items=>exact .bdC λaa aA=>.own)
 |dsel ks es i=>
  exact .bd λrs fr=>by
   cases b9 rs with
   |none=>exact .no
   |some ds=>rcases fr[i]? with _|⟨_|⟨_|_|_|_|_|_|_⟩|_|_|_⟩<;>first|exact .no|exact .okf (f:=id)
 |isx i yes no=>rw[n9];rcases fr[i]? with _|⟨_|_|_|_|_⟩<;>first|exact .no|exact .it .fz (.it .fz .no)
theorem yf {x:Ex} {cT:Fm} (h:ev c x fr=some (.ok r,cT)):(∃d,bQ r=some d)\/ ∃p,r = .pl p/\x = .pl p:=by
 by_cases hx:∃p,x = .pl p
 .obtain⟨p,rfl⟩:=hx
  rw[mC]at h
  by_cases q:ju fr p=true
  .rw[Y0 q]at h;obtain⟨rfl,rfl⟩:=sU h;exact .inr ⟨p,rfl,rfl⟩
  .rw[Y1 q]at h;exact ah h
 .exact .inl (CB x fr (λp q=>hx ⟨p,q⟩) r cT h)
theorem dy {x:Ex} {cT:Fm} {bv:List Nat} (h:ev c x fr=some (.ok r,cT)) (ap:Apart x bv):∀i∈fQ r,i∉bv:=by
 rcases yf h with⟨d,e⟩|⟨p,rfl,rfl⟩
 .refine Er (jt e) ?_;intro i hi;cases hi
 .intro i hi
  refine ap i ?_;cases p<;>exact hi
end
section
variable {A:Around} {c:cR} {n:Nat} {env:Env} {sc:Sc} {y:Lay}
 {bv bv':List Nat} {own ac:Addr->Option Nat} {Z aw:Addr->Prop} {s s₁:Shared} {fr aq:Fm}
def SE (A:Around) (c:cR) (y:Lay) (m:Sem Value) (x:Ex):Prop:= ∀(own:Addr->Option Nat) (Z:Addr->Prop) (s:Shared) (fr:Fm) (out:Except Str Rv×Fm),ev c x fr=some out->Inv y own Z s.heap fr->
 wpAny (model prog w) A m (dB y (aS x) own Z s out) (aV y (aS x) own Z s out) s
inductive mZ (y:Lay) (bv:List Nat) (own:Addr->Option Nat) (Z:Addr->Prop) (s:Shared) (out:Except Str Rv×Fm) (b:Bool) (s':Shared):Prop
 |mk (r:Rv) (d:D) (ae:Addr->Option Nat) (Z':Addr->Prop):out.1 = .ok r->cj out.2 r=some d->b=tD d->Inv y ae Z' s'.heap out.2->Step y bv own Z s ae Z' s'->mZ y bv own Z s out b s'
def ST (A:Around) (c:cR) (y:Lay) (m:Sem Bool) (x:Ex):Prop:= ∀(own:Addr->Option Nat) (Z:Addr->Prop) (s:Shared) (fr:Fm) (out:Except Str Rv×Fm),ev c x fr=some out->(∀r,out.1 = .ok r-> ∃d,cj out.2 r=some d)->Inv y own Z s.heap fr->
 wpAny (model prog w) A m (mZ y (aS x) own Z s out) (aV y (aS x) own Z s out) s
theorem cB {m:Sem Value} {mo:cA Rv} {k:Rv->Fm->cA β} {out:Except Str β×Fm} {Q:Value->Shared->Prop} (hk:aT mo k=some out) (S:Step y bv' own Z s ac aw s₁) (hb:∀i∈bv,i∈bv')
  (H:∀o,mo=some o->wpAny (model prog w) A m (dB y bv ac aw s₁ o) (aV y bv ac aw s₁ o) s₁)
  (K:∀r ax av aR aG v,mo=some (.ok r,ax)->k r ax=some out->Inv y av aR aG.heap ax->Step y bv ac aw s₁ av aR aG->Step y bv' own Z s av aR aG->d6 y av aR s₁.heap aG.heap r v->Q v aG):
  wpAny (model prog w) A m Q (aV y bv' own Z s out) s₁:=by
 rcases be hk with⟨e,f,hm,rfl⟩|⟨r,f,hm,hk⟩
 .refine YW (H _ hm) (λv s' p=>?_) λaa aA x=>x.up hb S
  obtain⟨r,_,_,q,_⟩:=p;exact iX q
 .refine YW (H _ hm) (λv s' p=>?_) λaa aA x=>x.elim
  refine ag λG g=>?_
  obtain⟨r',ae,Z',q,I,S',R⟩:=p;obtain rfl:=iE q;exact g (K r f ae Z' s' v hm hk I S' (S.trans (S'.sub hb)) R)
theorem kA {m:Sem Bool} {mo:cA Rv} {k:Rv->Fm->cA β} {out:Except Str β×Fm} {Q:Bool->Shared->Prop} (hk:aT mo k=some out) (S:Step y bv' own Z s ac aw s₁) (hb:∀i∈bv,i∈bv')
  (hd:∀r ax,k r ax=some out-> ∃d,cj ax r=some d)
  (H:∀o,mo=some o->(∀r,o.1 = .ok r-> ∃d,cj o.2 r=some d)->wpAny (model prog w) A m (mZ y bv ac aw s₁ o) (aV y bv ac aw s₁ o) s₁)
  (K:∀r d ax av aR aG,k r ax=some out->cj ax r=some d->Inv y av aR aG.heap ax->Step y bv ac aw s₁ av aR aG->Step y bv' own Z s av aR aG->Q (tD d) aG):
  wpAny (model prog w) A m Q (aV y bv' own Z s out) s₁:=by
 refine ag λG g=>?_
 rcases be hk with⟨e,f,hm,rfl⟩|⟨r,f,hm,hk⟩
 .refine g ?_
  refine YW (H _ hm λr q=>by exact iX q) (λv s' p=>?_) λaa aA x=>x.up hb S
  obtain⟨r,_,_,_,q,_⟩:=p;exact iX q
 .refine g ?_
  refine YW (H _ hm λr' q=>by refine Er (iE q).symm ?_;exact hd r f hk) (λv s' p=>?_) λaa aA x=>x.elim
  obtain⟨r',d,ae,Z',q,e,rfl,I,S'⟩:=p;obtain rfl:=iE q;exact K r d f ae Z' s' hk e I S' (S.trans (S'.sub hb))
theorem aQ {tk:Nat} (S:Step y bv own Z s ac aw s₁):Step y bv own Z s ac aw {s₁ with toks:=tk}:=
 S.trans (Step.grow (tk:=tk) (λaa aA e=>e))
theorem ST.of {x:Ex} (H:SE A c y (eval e env) x) (he:isTrue e env (eval e env)=(do let v <- eval e env;standAt e.pos;holding [v] (truthy v))):ST A c y (isTrue e env (eval e env)) x:=by
 intro own Z s fr out h hd I;refine isTrue_plain (YW (H own Z s fr out h I) (λv s' p=>?_) λaa aA x=>x) he;obtain⟨r,ae,Z',e,I',S,R⟩:=p;exact aX (hd r e) λd hr=>(iS (R.dat I' hr) λtk=>⟨r,d,ae,Z',e,hr,rfl,I',aQ S⟩)
theorem DU {k:Const} {d:D} (hk:eB k d):SE A c y (eval (.Constant k kk pos) env) (.lit d):=by
 intro own Z s fr out h I;refine Er (aI h).symm ?_;cases hk with
 |none=>exact wpAny_Constant_none (.val I .refl .none)
 |bool b=>exact wpAny_Constant_bool (.val I .refl (.bool b))
 |int i=>exact wpAny_Constant_int (.val (s':= {s with toks:=s.toks+1}) I (aQ .refl) (.int i _))
 |str x hx hz=>exact wpAny_Constant_str (.val (s':= {s with toks:=s.toks+1}) I (aQ .refl) (.str x _ hx hz))
set_option tactic.hygienic true in
theorem Hn {k:Nat} (R:Rn A c n) (en:aN A sc env y) (hx:sc.isG x) (hk:tb.gl[k]? = some x):SE A c y (eval (.Name x pos) env) (.gl k):=by
 intro own Z s fr out h I;rw[qd]at h
 split at h
 .rename_i d hd
  exact Er (aI h).symm (aX (R.gd.gl k x d hk hd) λv q=>(eE R.gd en I hx q.1 (.val I .refl (q.2 _ _ I.base I.zb))))
 .exact ah h
set_option tactic.hygienic true in
theorem DN (en:aN A sc env y) (hx:sc.isV x i):SE A c y (eval (.Name x pos) env) (.var i):=by
 intro own Z s fr out h I;rw[jH]at h
 split at h
 .rename_i d hd
  obtain rfl:=aI h;obtain⟨l,v,hl,hr,q⟩:=I.at' i _ hd (by intro n;cases n);exact eH en hx hl hr (.val I .refl q)
 .rename_i d hd
  obtain rfl:=aI h;obtain⟨l,a,hl,hr,oa,q,I'⟩:=I.freeze hd;exact eH en hx hl hr (.val I' (.freeze oa) q)
 .exact ah h
set_option tactic.hygienic true in
theorem Hj (en:aN A sc env y) (hx:sc.isV x i):SE A c y (eval (.Name x pos) env) (.pl (.var i)):=by
 intro own Z s fr out h I;rw[mC]at h
 split at h
 .rename_i hl
  refine Er (aI h).symm ?_;simp only[ju]at hl;refine ag λG g=>?_
  split at hl
  .refine g ?_
   rename_i sl e;obtain⟨l,v,hl,hr,q⟩:=I.at' i _ e (by rintro rfl;cases hl);exact eH en hx hl hr ⟨_,own,Z,rfl,I,.refl,l,hl,hr⟩
  .refine g ?_
   cases hl
 .exact ah h
set_option tactic.hygienic true in
theorem zX {a:Str} {p:Pos} (R:Rn A c n) (en:aN A sc env y) (hx:sc.isA x a i):SE A c y (eval (.Attribute (.Name x p) a pos) env) (.var i):=by
 intro own Z s fr out h I;rw[jH]at h
 split at h
 .rename_i d hd
  obtain rfl:=aI h;refine ag λG g=>?_
  obtain⟨l,v,hl,hr,q⟩:=I.at' i _ hd (by intro n;cases n);exact g (iV R.gd en I hx hl hr (b5.hand q) λtk=>.val (s':= {s with toks:=tk}) I (aQ .refl) q)
 .rename_i d hd
  obtain rfl:=aI h;obtain⟨l,a,hl,hr,oa,q,I'⟩:=I.freeze hd;exact iV R.gd en I hx hl hr (b5.hand q) λtk=>.val (s':= {s with toks:=tk}) I' (aQ (.freeze oa)) q
 .exact ah h
set_option tactic.hygienic true in
theorem D1 {a:Str} {p:Pos} (R:Rn A c n) (en:aN A sc env y) (hx:sc.isA x a i):SE A c y (eval (.Attribute (.Name x p) a pos) env) (.pl (.var i)):=by
 intro own Z s fr out h I;rw[mC]at h
 split at h
 .rename_i hl
  refine Er (aI h).symm ?_;simp only[ju]at hl;refine ag λG g=>?_
  split at hl
  .refine g ?_
   rename_i sl e;have n:sl≠ .no:=by rintro rfl;cases hl
   obtain⟨l,v,hl,hr,q⟩:=I.at' i _ e n;exact iV R.gd en I hx hl hr (q.hand n) λtk=>⟨_,own,Z,rfl,I,aQ .refl,l,hl,hr⟩
  .refine g ?_
   cases hl
 .exact ah h
theorem Rn.cl (R:Rn A c n):A.units+66<cLine:=by
 have:=R.un;exact(L1 [A.5,n] (.p 1 (.p 66 .x)) (.c 9900) (.p 4 (.a .x (.m 8 .y))) (.c 4000) rfl this)
theorem bI {a b:List Nat}:∀i∈a,i∈a++b:=λi h=>Zx _ h
theorem cw {a b:List Nat}:∀i∈b,i∈a++b:=λi h=>Zw _ h
set_option tactic.hygienic true in
theorem DR {o:lE} (Ha:SE A c y (eval ea env) xa) (Hb:SE A c y (eval eb env) xb) (ap:Apart xa (aS xb)):SE A c y (eval (.BinOp ea (wx o) eb pos) env) (.op2 o xa xb):=by
 intro own Z s fr out h I;rw[yi]at h;refine wpAny_BinOp (cB (bv:=aS xa) (bv':=aS xa++aS xb) h .refl bI (λo e=>Ha own Z s fr o e I) λr aq ac aw s₁ v bn h ai bb S R=>?_);refine cB (bv:=aS xb) h S cw (λo e=>Hb ac aw s₁ aq o e ai) λr' ax av aR aG v' j0 h aF aY S R'=>?_
 split at h
 .rename_i d e hd he
  obtain⟨q,hq,rfl⟩:=iF h;exact YW (E:=aV y (aS xa++aS xb) own Z s (.ok q,ax)) (Ef (by cases o<;>rfl) hq ((aY.rv ai (dy bn ap) R).dat aF hd) (R'.dat aF he)) (λv s' p=>p.post aF S) λaa aA x=>x
 .exact ah h
set_option tactic.hygienic true in
theorem DT (Ha:SE A c y (eval ea env) xa):SE A c y (eval (.UnaryOp .USub ea pos) env) (.neg xa):=by
 intro own Z s fr out h I;rw[yj]at h;refine UnaryOp_ (cB (bv:=aS xa) h .refl (λaa h=>h) (λo e=>Ha own Z s fr o e I) λr aq ac aw s₁ v bn h ai bb S R=>?_)
 split at h
 .rename_i d hd
  obtain⟨q,hq,rfl⟩:=fS h;rw[Za]at hq;obtain⟨e,hq⟩:=hq;refine Er hq.2.symm ?_;have c5:cj aq r=some d:=by cases r<;>first|exact hd|exact ah hd
  exact YW (Ec hq.1 (R.dat ai c5)) (λv s' p=>p.post ai S) λaa aA x=>x
 .exact ah h
set_option tactic.hygienic true in
theorem DS (Ha:SE A c y (eval ea env) xa):SE A c y (eval (.UnaryOp .Not ea pos) env) (.not xa):=by
 intro own Z s fr out h I;rw[rS]at h;refine UnaryOp_ (cB (bv:=aS xa) h .refl (λaa h=>h) (λo e=>Ha own Z s fr o e I) λr aq ac aw s₁ v bn h ai bb S R=>?_)
 split at h
 .rename_i d hd
  exact Er (aI h).symm (YW (Eb (R.dat ai hd)) (λv s' p=>p.post ai S) λaa aA x=>x)
 .exact ah h
theorem Dp (Ha:ST A c y (isTrue ea env (eval ea env)) xa):ST A c y (isTrue (.UnaryOp .Not ea pos) env lT) (.not xa):=by
 intro own Z s fr out h _ I;rw[rS]at h;refine isTrue_not (kA (bv:=aS xa) h .refl (λaa h=>h) (λr ax h=>?_) (λo e hd=>Ha own Z s fr o e hd I) λr d aq ac aw s₁ h hd ai bb S=>?_)
 .split at h
  .exact⟨_,by assumption⟩
  .exact ah h
 .rw[hd]at h
  exact Er (aI h).symm (⟨_,_,ac,aw,rfl,rfl,rfl,ai,S⟩)
set_option tactic.hygienic true in
theorem DZ (R:Rn A c n) (Ha:SE A c y (eval ea env) xa) (Hb:SE A c y (eval eb env) xb) (ap:Apart xa (aS xb)) (hm:behindInMarks (eM o) eb=false):SE A c y (eval (.Compare ea [eM o] [eb] pos) env) (.cmp o xa xb):=by
 intro own Z s fr out h I;rw[rU]at h;refine wpAny_Compare1 (cB (bv:=aS xa) (bv':=aS xa++aS xb) h .refl bI (λo e=>Ha own Z s fr o e I) λr aq ac aw s₁ v bn h ai bb S R1=>?_) hm;refine cB (bv:=aS xb) h S cw (λo e=>Hb ac aw s₁ aq o e ai) λr' ax av aR aG v' j0 h aF aY S R'=>?_
 split at h
 .rename_i d e hd he
  obtain⟨q,hq,rfl⟩:=fS h;rw[Za]at hq;obtain⟨b,hq⟩:=hq;refine Er hq.2.symm ?_;have hb:=hq.1;exact YW (jy hb ((aY.rv ai (dy bn ap) R1).dat aF hd) (R'.dat aF he) R.cl) (λv s' p=>p.post aF S) λaa aA x=>x
 .exact ah h
theorem Op.boolV {Z:Addr->Prop} {s s':Shared} (p:Op Z s (.fz (.bool b)) v s'):v = .bool b/\ ∃h' tk,s'={s with heap:=h',toks:=tk}/\ ∀a o,s.heap.get? a=some o->h'.get? a=some o:=by
 obtain⟨h',tk,rfl,k,q⟩:=p;cases q with
 |old R=>exact⟨dE.bool (.inl R),h',tk,rfl,k⟩
 |new e e' R=>exact⟨dE.bool (.inl R),h',tk,rfl,k⟩
set_option tactic.hygienic true in
theorem Dr (R:Rn A c n) (Ha:SE A c y (eval ea env) xa) (Hb:SE A c y (eval eb env) xb) (ap:Apart xa (aS xb)) (hm:behindInMarks (eM o) eb=false):ST A c y (isTrue (.Compare ea [eM o] [eb] pos) env lT) (.cmp o xa xb):=by
 intro own Z s fr out h _ I;rw[rU]at h;refine wpAny_isTrue_Compare1 (cB (bv:=aS xa) (bv':=aS xa++aS xb) h .refl bI (λo e=>Ha own Z s fr o e I) λr aq ac aw s₁ v bn h ai bb S R1=>?_) hm;refine cB (bv:=aS xb) h S cw (λo e=>Hb ac aw s₁ aq o e ai) λr' ax av aR aG v' j0 h aF aY S R'=>?_
 split at h
 .rename_i d e hd he
  obtain⟨q,hq,rfl⟩:=fS h;rw[Za]at hq;obtain⟨b,hq⟩:=hq;refine Er hq.2.symm ?_;have hb:=hq.1;refine YW (jy hb ((aY.rv ai (dy bn ap) R1).dat aF hd) (R'.dat aF he) R.cl) (λv s' p=>?_) λaa aA x=>x
  obtain⟨rfl,h',tk,rfl,k⟩:=p.boolV;exact wpAny_truthy_bool ⟨_,_,av,aR,rfl,rfl,rfl,aF.grow k,S.trans (.grow k)⟩
 .exact ah h
theorem kT {o p:CmpOp} {b:Expr} (h:behindInMarks p e=false):lastMarks [o,p] [b,e]=false:=by
 simpa [lastMarks] using h
theorem cG {fr:Fm} {d:D} (h:bQ r=some d):cj fr r=some d:=by cases r<;>first|exact h|exact ah h
theorem dT {d:D} {bv:List Nat} (h:bQ r=some d):∀i∈fQ r,i∉bv:=by refine Er (jt h) ?_;intro i hi;cases hi
set_option tactic.hygienic true in
theorem zV {ec:Expr} {p:Cm} {xc:Ex} (R:Rn A c n) (Ha:SE A c y (eval ea env) xa) (Hb:SE A c y (eval eb env) xb) (Hc:SE A c y (eval ec env) xc) (hm:behindInMarks (eM p) ec=false):
  SE A c y (eval (.Compare ea [eM o,eM p] [eb,ec] pos) env) (.cmp2 o p xa xb xc):=by
 intro own Z s fr out h I;rw[oc]at h;refine Compare_chain (cB (bv:=aS xa) (bv':=aS xa++aS xb++aS xc) h .refl (λi h=>bI i (bI i h)) (λo e=>Ha own Z s fr o e I) λr aq ac aw s₁ v bn h ai bb S R1=>?_) (kT hm);refine chain_link (cB (bv:=aS xb) h S (λi h=>bI i (cw i h)) (λo e=>Hb ac aw s₁ aq o e ai) λr' ax av aR aG v' j0 h aF aY S R'=>?_)
 split at h
 .rename_i d e hd he
  split at h
  .exact ah h
  .rename_i t ht
   refine YW (jy ht ((aY.rv ai (dT hd) R1).dat aF (cG hd)) (R'.dat aF (cG he)) R.cl) (λv s' p=>?_) λaa aA x=>x
   obtain⟨rfl,h',tk,rfl,k⟩:=p.boolV;refine wpAny_truthy_bool ?_;cases t with
   |false=>
    rw[Y1 (by simp)]at h ⊢;exact Er (aI h).symm (.val (aF.grow k) (S.trans (.grow k)) (.bool _))
   |true=>
    rw[Y0 rfl]at h ⊢;have iJ:Step y (aS xb) av aR aG av aR {aG with heap:=h',toks:=tk}:=.grow k;refine chain_last (cB (bv:=aS xc) h (S.trans (.grow k)) cw (λo e=>Hc av aR _ ax o e (aF.grow k)) λr3 jP jw f6 iO v3 IW h lz yU S R3=>?_)
    split at h
    .rename_i d3 LM
     obtain⟨q,hq,rfl⟩:=fS h;rw[Za]at hq;obtain⟨b,hq⟩:=hq;exact Er hq.2.symm (YW (jy hq.1 ((yU.rv (aF.grow k) (dT he) (iJ.rv aF (dT he) R')).dat lz (cG he)) (R3.dat lz (cG LM)) R.cl) (λv s' p=>p.post lz S) λaa aA x=>x)
    .exact ah h
 .exact ah h
set_option tactic.hygienic true in
theorem zC {ec:Expr} {p:Cm} {xc:Ex} (R:Rn A c n) (Ha:SE A c y (eval ea env) xa) (Hb:SE A c y (eval eb env) xb) (Hc:SE A c y (eval ec env) xc) (hm:behindInMarks (eM p) ec=false):
  ST A c y (isTrue (.Compare ea [eM o,eM p] [eb,ec] pos) env lT) (.cmp2 o p xa xb xc):=by
 intro own Z s fr out h _ I;rw[oc]at h;refine isTrue_chain (cB (bv:=aS xa) (bv':=aS xa++aS xb++aS xc) h .refl (λi h=>bI i (bI i h)) (λo e=>Ha own Z s fr o e I) λr aq ac aw s₁ v bn h ai bb S R1=>?_) (kT hm);refine test_link (cB (bv:=aS xb) h S (λi h=>bI i (cw i h)) (λo e=>Hb ac aw s₁ aq o e ai) λr' ax av aR aG v' j0 h aF aY S R'=>?_)
 split at h
 .rename_i d e hd he
  split at h
  .exact ah h
  .rename_i t ht
   refine YW (jy ht ((aY.rv ai (dT hd) R1).dat aF (cG hd)) (R'.dat aF (cG he)) R.cl) (λv s' p=>?_) λaa aA x=>x
   obtain⟨rfl,h',tk,rfl,k⟩:=p.boolV;refine wpAny_truthy_bool ?_;cases t with
   |false=>
    rw[Y1 (by simp)]at h ⊢;exact Er (aI h).symm (⟨_,_,av,aR,rfl,rfl,rfl,aF.grow k,S.trans (.grow k)⟩)
   |true=>
    rw[Y0 rfl]at h ⊢;have iJ:Step y (aS xb) av aR aG av aR {aG with heap:=h',toks:=tk}:=.grow k;refine test_last (cB (bv:=aS xc) h (S.trans (.grow k)) cw (λo e=>Hc av aR _ ax o e (aF.grow k)) λr3 jP jw f6 iO v3 IW h lz yU S R3=>?_)
    split at h
    .rename_i d3 LM
     obtain⟨q,hq,rfl⟩:=fS h;rw[Za]at hq;obtain⟨b,hq⟩:=hq;refine Er hq.2.symm ?_;refine YW (jy hq.1 ((yU.rv (aF.grow k) (dT he) (iJ.rv aF (dT he) R')).dat lz (cG he)) (R3.dat lz (cG LM)) R.cl) (λv s' p=>?_) λaa aA x=>x
     obtain⟨rfl,h',tk,rfl,k⟩:=p.boolV;exact wpAny_truthy_bool ⟨_,_,jw,f6,rfl,rfl,rfl,lz.grow k,S.trans (.grow k)⟩
    .exact ah h
 .exact ah h
set_option tactic.hygienic true in
theorem DV {et:Expr} {xt:Ex} (Ht:ST A c y (isTrue et env (eval et env)) xt) (Ha:SE A c y (eval ea env) xa) (Hb:SE A c y (eval eb env) xb):SE A c y (eval (.IfExp et ea eb pos) env) (.ite xt xa xb):=by
 intro own Z s fr out h I;rw[rT]at h;refine IfExp_ (kA (bv:=aS xt) (bv':=aS xt++aS xa++aS xb) h .refl (λi h=>bI i (bI i h)) (λr ax h=>?_) (λo e hd=>Ht own Z s fr o e hd I) λr d aq ac aw s₁ h hd ai bb S=>?_)
 .split at h
  .exact⟨_,by assumption⟩
  .exact ah h
 .rw[hd]at h
  dsimp only at h
  split at h
  .rename_i ht
   rw[Y0 ht];refine cB (bv:=aS xa) h S (λi h=>bI i (cw i h)) (λo e=>Ha ac aw s₁ aq o e ai) λr' ax av aR aG v' j0 h aF aY S' R'=>?_
   split at h
   .exact ah h
   .cases h;exact⟨_,av,aR,rfl,aF,S',R'.since bb.old⟩
  .rename_i ht
   rw[Y1 ht];refine cB (bv:=aS xb) h S cw (λo e=>Hb ac aw s₁ aq o e ai) λr' ax av aR aG v' j0 h aF aY S' R'=>?_
   split at h
   .exact ah h
   .cases h;exact⟨_,av,aR,rfl,aF,S',R'.since bb.old⟩
set_option tactic.hygienic true in
theorem Dq {et:Expr} {xt:Ex} (Ht:ST A c y (isTrue et env (eval et env)) xt) (Ha:ST A c y (isTrue ea env (eval ea env)) xa) (Hb:ST A c y (isTrue eb env (eval eb env)) xb):
  ST A c y (isTrue (.IfExp et ea eb pos) env lT) (.ite xt xa xb):=by
 intro own Z s fr out h _ I;rw[rT]at h;refine isTrue_IfExp (kA (bv:=aS xt) (bv':=aS xt++aS xa++aS xb) h .refl (λi h=>bI i (bI i h)) (λr ax h=>?_) (λo e hd=>Ht own Z s fr o e hd I) λr d aq ac aw s₁ h hd ai bb S=>?_)
 .split at h
  .exact⟨_,by assumption⟩
  .exact ah h
 .have h:=hd▸h
  dsimp only at h;have dd:∀(r:Rv) (ax:Fm),(match bQ r with|none=>none|some _=>some ((Except.ok r:Except Str Rv),ax))=some out-> ∃d,cj ax r=some d:=λr ax h=>by
   split at h
   .exact ah h
   .exact⟨_,cG (by assumption)⟩
  split at h
  .rename_i ht
   rw[Y0 ht];refine kA (bv:=aS xa) h S (λi h=>bI i (cw i h)) dd (λo e hd=>Ha ac aw s₁ aq o e hd ai) λr' d' ax av aR aG h e aF aY S'=>?_
   split at h
   .exact ah h
   .cases h;exact⟨_,_,av,aR,rfl,e,rfl,aF,S'⟩
  .rename_i ht
   rw[Y1 ht];refine kA (bv:=aS xb) h S cw dd (λo e hd=>Hb ac aw s₁ aq o e hd ai) λr' d' ax av aR aG h e aF aY S'=>?_
   split at h
   .exact ah h
   .cases h;exact⟨_,_,av,aR,rfl,e,rfl,aF,S'⟩
set_option tactic.hygienic true in
theorem DY (Ha:SE A c y (eval ea env) xa) (Hb:SE A c y (eval eb env) xb) (ap:Apart xa (aS xb)) (hs:∀o i,subscripted eb false o i=operate [o,i] (getItem o i)):SE A c y (eval (.Subscript ea eb pos) env) (.idx xa xb):=by
 intro own Z s fr out h I;rw[yk]at h;refine Subscript_ (cB (bv:=aS xa) (bv':=aS xa++aS xb) h .refl bI (λo e=>Ha own Z s fr o e I) λr aq ac aw s₁ v bn h ai bb S R=>?_);refine cB (bv:=aS xb) h S cw (λo e=>Hb ac aw s₁ aq o e ai) λr' ax av aR aG v' j0 h aF aY S R'=>?_
 split at h
 .rename_i d e hd he
  obtain⟨q,hq,rfl⟩:=fS h;rw[Za]at hq;obtain⟨b,hq⟩:=hq;exact Er hq.2.symm (fM (rf (A:=A) (E:=aV y (aS xa++aS xb) own Z s ((.ok (.fz b):Except Str Rv),ax)) hq.1 ((aY.rv ai (dy bn ap) R).dat aF hd) (R'.dat aF (cG he))) λT id Q=>(tail_any Q.1 Q.2.1 (YW Q.2.2 (λv s' p=>p.post aF S) λaa aA x=>x) (hs _ _)))
 .exact ah h
set_option tactic.hygienic true in
theorem DP {lo hi:Option Expr} {xl xh:Ex} {p:Pos} (Ha:SE A c y (eval ea env) xa) (Hl:SE A c y (evalPart lo env) xl) (Hh:SE A c y (evalPart hi env) xh) (ap:Apart xa (aS xl++aS xh)):
  SE A c y (eval (.Subscript ea (.Slice lo hi none p) pos) env) (.slc xa xl xh):=by
 intro own Z s fr out h I;rw[yh]at h;refine Subscript_ (cB (bv:=aS xa) (bv':=aS xa++aS xl++aS xh) h .refl (λi h=>bI i (bI i h)) (λo e=>Ha own Z s fr o e I) λr aq ac aw s₁ v bn h ai bb S R=>?_);refine wpAny_Slice (cB (bv:=aS xl) h S (λi h=>bI i (cw i h)) (λo e=>Hl ac aw s₁ aq o e ai) λr2 ax av aR aG v2 j0 h aF aY S R'=>?_);refine cB (bv:=aS xh) h S cw (λo e=>Hh av aR aG ax o e aF) λr3 jP jw f6 iO v3 IW h gf iJ S R3=>?_
 refine wpAny_of_eq (evalPart_none _) ?_;refine ag λG g=>?_
 split at h
 .refine g ?_
  rename_i d l u hd hl hu;obtain⟨q,hq,rfl⟩:=iF h;have Rl:=iJ.rv aF (dT hl) R';exact fM (wu (A:=A) (E:=aV y (aS xa++aS xl++aS xh) own Z s ((.ok q:Except Str Rv),jP)) hq ((iJ.rv aF (λi hi hb=>dy bn ap i hi (cw i hb)) (aY.rv ai (λi hi hb=>dy bn ap i hi (bI i hb)) R)).dat gf hd) (Rl.dat gf (cG hl)) (R3.dat gf (cG hu))) λT id Q=>(tail_any Q.1 Q.2.1 (YW Q.2.2 (λv s' p=>p.post gf S) λaa aA x=>x) rfl)
 .exact g (ah h)
end
def F2 (P:Expr->Ex->Prop):List Expr->List Ex->Prop
 |[],[]=>True
 |e::es,x::xs=>P e x/\Apart x (bf xs)/\F2 P es xs
 |_,_=>False
section
variable {A:Around} {c:cR} {n:Nat} {env:Env} {sc:Sc} {y:Lay}
 {bv bv':List Nat} {own ac:Addr->Option Nat} {Z aw:Addr->Prop} {s s₁:Shared} {fr aq:Fm}
theorem dB.toks {tk:Nat} (p:dB y bv own Z s out v s'):dB y bv own Z s out v {s' with toks:=tk}:=by
 obtain⟨r,ae,Z',e,I,S,R⟩:=p;exact⟨r,ae,Z',e,I,aQ S,R⟩
theorem dB.from (hb:∀i∈bv,i∈bv') (S:Step y bv' own Z s ac aw s₁) (p:dB y bv ac aw s₁ out v s'):dB y bv' own Z s out v s':=by
 obtain⟨r,ae,Z',e,I,S',R⟩:=p;exact⟨r,ae,Z',e,I,S.trans (S'.sub hb),R.since S.old⟩
theorem mZ.from {v:Bool} (hb:∀i∈bv,i∈bv') (S:Step y bv' own Z s ac aw s₁) (p:mZ y bv ac aw s₁ out v s'):mZ y bv' own Z s out v s':=by
 obtain⟨r,d,ae,Z',e,e',ev,I,S'⟩:=p;exact⟨r,d,ae,Z',e,e',ev,I,S.trans (S'.sub hb)⟩
set_option tactic.hygienic true in
theorem D2:∀ {es:List Expr} {xs:List Ex},F2 (λe x=>SE A c y (eval e env) x) es xs->SE A c y (eval (.BoolOp .And es pos) env) (.and xs):=by
 intro x1 x2 F
 induction x1 generalizing x2 with
 |nil=>
  cases x2 with
  |nil=>intro own Z s fr out h I;exact ah h
  |cons x4 x5=>exact F.elim
 |cons e x3 ih=>
  cases x3 with
  |nil=>
   cases x2 with
   |nil=>exact F.elim
   |cons x x6=>
    cases x6 with
    |nil=>
      intro own Z s fr out h I;rw[lb,gZ]at h;refine BoolOp_one (cB (bv:=aS x) (bv':=aS x++[]) h .refl bI (λo e=>F.1 own Z s fr o e I) λr aq ac aw s₁ v bn h ai bb S R=>?_)
      split at h
      .exact ah h
      .exact Er (aI h).symm (⟨_,ac,aw,rfl,ai,S,R⟩)
    |cons x7 x8=>exact F.2.2.elim
  |cons e' es=>
   cases x2 with
   |nil=>exact F.elim
   |cons x x9=>
    cases x9 with
    |nil=>exact F.2.2.elim
    |cons x' xs=>
      intro own Z s fr out h I;rw[lb,fW]at h;refine BoolOp_and (cB (bv:=aS x) (bv':=aS x++bf (x'::xs)) h .refl bI (λo e=>F.1 own Z s fr o e I) λr aq ac aw s₁ v bn h ai bb S R=>?_)
      split at h
      .exact ah h
      .rename_i d hd
       refine iS (R.dat ai (cG hd)) λtk=>?_
       split at h
       .rename_i ht
        exact Er (Y0 ht) (YW (ih F.2.2 ac aw {s₁ with toks:=tk} aq out h ai) (λv s' p=>p.from cw (aQ (tk:=tk) S)) λe s' p=>p.sub cw (aQ (tk:=tk) S))
       .rename_i ht
        exact Er (Y1 ht) (Er (aI h).symm (⟨_,ac,aw,rfl,ai,aQ S,R⟩))
set_option tactic.hygienic true in
theorem Hk:∀ {es:List Expr} {xs:List Ex},F2 (λe x=>SE A c y (eval e env) x) es xs->SE A c y (eval (.BoolOp .Or es pos) env) (.or xs):=by
 intro x1 x2 F
 induction x1 generalizing x2 with
 |nil=>
  cases x2 with
  |nil=>intro own Z s fr out h I;exact ah h
  |cons x4 x5=>exact F.elim
 |cons e x3 ih=>
  cases x3 with
  |nil=>
   cases x2 with
   |nil=>exact F.elim
   |cons x x6=>
    cases x6 with
    |nil=>
      intro own Z s fr out h I;rw[p8,i7]at h;refine BoolOp_one (cB (bv:=aS x) (bv':=aS x++[]) h .refl bI (λo e=>F.1 own Z s fr o e I) λr aq ac aw s₁ v bn h ai bb S R=>?_)
      split at h
      .exact ah h
      .exact Er (aI h).symm (⟨_,ac,aw,rfl,ai,S,R⟩)
    |cons x7 x8=>exact F.2.2.elim
  |cons e' es=>
   cases x2 with
   |nil=>exact F.elim
   |cons x x9=>
    cases x9 with
    |nil=>exact F.2.2.elim
    |cons x' xs=>
      intro own Z s fr out h I;rw[p8,gY]at h;refine BoolOp_or (cB (bv:=aS x) (bv':=aS x++bf (x'::xs)) h .refl bI (λo e=>F.1 own Z s fr o e I) λr aq ac aw s₁ v bn h ai bb S R=>?_)
      split at h
      .exact ah h
      .rename_i d hd
       refine iS (R.dat ai (cG hd)) λtk=>?_
       split at h
       .rename_i ht
        exact Er (Y0 ht) (Er (aI h).symm (⟨_,ac,aw,rfl,ai,aQ S,R⟩))
       .rename_i ht
        exact Er (Y1 ht) (YW (ih F.2.2 ac aw {s₁ with toks:=tk} aq out h ai) (λv s' p=>p.from cw (aQ (tk:=tk) S)) λe s' p=>p.sub cw (aQ (tk:=tk) S))
set_option tactic.hygienic true in
theorem Ds:∀ {es:List Expr} {xs:List Ex},F2 (λe x=>ST A c y (isTrue e env (eval e env)) x) es xs->ST A c y (isTrue (.BoolOp .And es pos) env lT) (.and xs):=by
 intro x1 x2 F
 induction x1 generalizing x2 with
 |nil=>
  cases x2 with
  |nil=>intro own Z s fr out h _ I;exact ah h
  |cons x4 x5=>exact F.elim
 |cons e x3 ih=>
  cases x3 with
  |nil=>
   cases x2 with
   |nil=>exact F.elim
   |cons x x6=>
    cases x6 with
    |nil=>
      intro own Z s fr out h _ I;rw[lb,gZ]at h;refine isTrue_and (kA (bv:=aS x) (bv':=aS x++[]) h .refl bI (λr ax h=>?_) (λo e hd=>F.1 own Z s fr o e hd I) λr d aq ac aw s₁ h hd ai bb S=>?_)
      .split at h
       .exact ah h
       .exact⟨_,cG (by assumption)⟩
      .split at h
       .exact ah h
       .refine Er (aI h).symm ?_
        cases ht:tD d with
        |true=>exact isTrue_and_nil ⟨_,_,ac,aw,rfl,hd,ht.symm,ai,S⟩
        |false=>exact⟨_,_,ac,aw,rfl,hd,ht.symm,ai,S⟩
    |cons x7 x8=>exact F.2.2.elim
  |cons e' es=>
   cases x2 with
   |nil=>exact F.elim
   |cons x x9=>
    cases x9 with
    |nil=>exact F.2.2.elim
    |cons x' xs=>
      intro own Z s fr out h oJ I;rw[lb,fW]at h;refine isTrue_and (kA (bv:=aS x) (bv':=aS x++bf (x'::xs)) h .refl bI (λr ax h=>?_) (λo e hd=>F.1 own Z s fr o e hd I) λr d aq ac aw s₁ h hd ai bb S=>?_)
      .split at h
       .exact ah h
       .exact⟨_,cG (by assumption)⟩
      .split at h
       .exact ah h
       .rename_i d' c5
        have II:=cG (fr:=aq) c5;rw[hd]at II;obtain rfl:=aI II
        split at h
        .rename_i ht
         exact Er (Y0 ht) (YW (ih F.2.2 ac aw s₁ aq out h oJ ai) (λv s' p=>p.from cw S) λe s' p=>p.sub cw S)
        .rename_i ht
         exact Er (Y1 ht) (Er (aI h).symm (⟨_,_,ac,aw,rfl,hd,by simpa using (by simpa using ht:tD d=false).symm,ai,S⟩))
set_option tactic.hygienic true in
theorem G0:∀ {es:List Expr} {xs:List Ex},F2 (λe x=>ST A c y (isTrue e env (eval e env)) x) es xs->ST A c y (isTrue (.BoolOp .Or es pos) env lT) (.or xs):=by
 intro x1 x2 F
 induction x1 generalizing x2 with
 |nil=>
  cases x2 with
  |nil=>intro own Z s fr out h _ I;exact ah h
  |cons x4 x5=>exact F.elim
 |cons e x3 ih=>
  cases x3 with
  |nil=>
   cases x2 with
   |nil=>exact F.elim
   |cons x x6=>
    cases x6 with
    |nil=>
      intro own Z s fr out h _ I;rw[p8,i7]at h;refine isTrue_or (kA (bv:=aS x) (bv':=aS x++[]) h .refl bI (λr ax h=>?_) (λo e hd=>F.1 own Z s fr o e hd I) λr d aq ac aw s₁ h hd ai bb S=>?_)
      .split at h
       .exact ah h
       .exact⟨_,cG (by assumption)⟩
      .split at h
       .exact ah h
       .refine Er (aI h).symm ?_
        cases ht:tD d with
        |true=>exact⟨_,_,ac,aw,rfl,hd,ht.symm,ai,S⟩
        |false=>exact isTrue_or_nil ⟨_,_,ac,aw,rfl,hd,ht.symm,ai,S⟩
    |cons x7 x8=>exact F.2.2.elim
  |cons e' es=>
   cases x2 with
   |nil=>exact F.elim
   |cons x x9=>
    cases x9 with
    |nil=>exact F.2.2.elim
    |cons x' xs=>
      intro own Z s fr out h oJ I;rw[p8,gY]at h;refine isTrue_or (kA (bv:=aS x) (bv':=aS x++bf (x'::xs)) h .refl bI (λr ax h=>?_) (λo e hd=>F.1 own Z s fr o e hd I) λr d aq ac aw s₁ h hd ai bb S=>?_)
      .split at h
       .exact ah h
       .exact⟨_,cG (by assumption)⟩
      .split at h
       .exact ah h
       .rename_i d' c5
        have II:=cG (fr:=aq) c5;rw[hd]at II;obtain rfl:=aI II
        split at h
        .rename_i ht
         exact Er (Y0 ht) (Er (aI h).symm (⟨_,_,ac,aw,rfl,hd,ht.symm,ai,S⟩))
        .rename_i ht
         exact Er (Y1 ht) (YW (ih F.2.2 ac aw s₁ aq out h oJ ai) (λv s' p=>p.from cw S) λe s' p=>p.sub cw S)
inductive oG (y:Lay) (bv:List Nat) (own:Addr->Option Nat) (Z:Addr->Prop) (s:Shared) (out:Except Str (List Rv)×Fm) (vs:List Value) (s':Shared):Prop
 |mk (rs:List Rv) (ae:Addr->Option Nat) (Z':Addr->Prop):out.1 = .ok rs->Inv y ae Z' s'.heap out.2->Step y bv own Z s ae Z' s'->d5 y ae Z' s.heap s'.heap rs vs->oG y bv own Z s out vs s'
theorem d6.frz (I:Inv y ae Z' s'.heap fr) (S:Step y bv own Z s ae Z' s') (q:d6 y ae Z' s.heap s'.heap r v):
  ∃mY,Inv y ae mY s'.heap fr/\Step y bv own Z s ae mY s'/\d6 y ae mY s.heap s'.heap (frz r) v/\ ∀a,Z' a->mY a:=by
 cases r with
 |fz d=>exact⟨Z',I,S,q,λaa z=>z⟩
 |own d=>
  obtain⟨a,rfl,n0,nw,nf,nz,w⟩:=q;obtain⟨o,ho⟩:=w.live;exact⟨_,I.addZ nw nf ho,S.addZ n0,w.rep (λaa z=>.inl z) (.inr rfl),λaa z=>.inl z⟩
 |pl p=>exact⟨Z',I,S,q,λaa z=>z⟩
theorem kJ (r:Rv):fQ (frz r)=fQ r:=by cases r<;>rfl
theorem d5.since {h₁:Heap} (k:∀a,h₁.get? a=none->h₀.get? a=none):∀ {rs:List Rv} {vs:List Value},d5 y own Z h₁ h rs vs->d5 y own Z h₀ h rs vs:=by
 intro x1 x2 q
 induction x1 generalizing x2 with
 |nil=>
  cases x2 with
  |nil=>exact trivial
  |cons x5 x6=>exact q.elim
 |cons x3 x4 ih=>
  cases x2 with
  |nil=>exact q.elim
  |cons x7 x8=>exact⟨q.1.since k,ih q.2⟩
set_option tactic.hygienic true in
theorem d5.repAll:∀ {rs:List Rv} {vs:List Value} {ds:List D},d5 y own Z h₀ h rs vs->b9 rs=some ds->am h Z vs ds:=by
 intro rs vs ds q e
 induction rs generalizing vs ds with
 |nil=>
  cases vs with
  |nil=>exact Er (aI e).symm .nil
  |cons x1 x2=>exact q.elim
 |cons r rs ih=>
  cases vs with
  |nil=>exact q.elim
  |cons v vs=>
    simp only[iz]at e
    split at e
    .rename_i d No hd gA
     refine Er (aI e).symm ?_;refine .cons ?_ (ih q.2 gA);have:=q.1;cases r with
     |fz d'=>exact Er (aI hd).symm this
     |own d'=>exact Er (aI hd).symm this
     |pl p=>exact ah hd
    .exact ah e
theorem nu {fr:Fm} {d:D} (h:cj fr r=some d):cj fr (frz r)=some d:=by cases r<;>exact h
theorem qV:∀ {es:List Expr} {xs:List Ex},F2 (λe x=>CE sc e x/\SE A c y (eval e env) x) es xs-> ∀(own:Addr->Option Nat) (Z:Addr->Prop) (s:Shared) (fr:Fm) (out:Except Str (List Rv)×Fm),gr c xs fr=some out->Inv y own Z s.heap fr->
  wpAny (model prog w) A (spliced (backTo pos (starEach es env))) (oG y (bf xs) own Z s out) (aV y (bf xs) own Z s out) s:=by
 intro es xs F
 induction es generalizing xs with
 |nil=>
  cases xs with
  |nil=>
    intro own Z s fr out h I;exact Er (aI h).symm (spliced_none ⟨[],own,Z,rfl,I,.refl,trivial⟩)
  |cons x1 x2=>exact F.elim
 |cons e es ih=>
  cases xs with
  |nil=>exact F.elim
  |cons x xs=>
    intro own Z s fr out h I;rw[dj]at h;refine spliced_more (cB (bv:=aS x) (bv':=aS x++bf xs) h .refl bI (λo e=>F.1.2 own Z s fr o e I) λr aq ac aw s₁ v bn h ai bb S R=>?_) (F.1.1.star env es);refine ag λG g=>?_
    refine aX (R.frz ai S) λaR Q=>?_;have aF:=Q.1;have aY:=Q.2.1;have fy:=Q.2.2.1
    have ap:∀i∈fQ (frz r),i∉bf xs:=by rw[kJ];exact dy bn F.2.1
    rcases be h with⟨e',f,hm,rfl⟩|⟨rs,f,hm,h⟩
    .refine g ?_
     refine YW (ih F.2.2 ac aR s₁ aq _ hm aF) (λvs s' p=>?_) λe s' p=>p.up cw aY
     obtain⟨_,_,_,q,_⟩:=p;exact iX q
    .refine g ?_
     refine YW (ih F.2.2 ac aR s₁ aq _ hm aF) (λvs s' p=>?_) λe s' p=>p.elim
     obtain⟨JZ,ae,Z',q,I',S',R'⟩:=p;obtain rfl:=iE q;exact Er (aI h).symm (⟨r::rs,ae,Z',rfl,I',aY.trans (S'.sub cw),S'.rv aF ap fy,R'.since aY.old⟩)
theorem kB {m:Sem (List Value)} {mo:cA (List Rv)} {k:List Rv->Fm->cA β} {out:Except Str β×Fm} {Q:List Value->Shared->Prop} (hk:aT mo k=some out) (S:Step y bv' own Z s ac aw s₁) (hb:∀i∈bv,i∈bv')
  (H:∀o,mo=some o->wpAny (model prog w) A m (oG y bv ac aw s₁ o) (aV y bv ac aw s₁ o) s₁)
  (K:∀rs ax av aR aG vs,mo=some (.ok rs,ax)->k rs ax=some out->Inv y av aR aG.heap ax->Step y bv ac aw s₁ av aR aG->Step y bv' own Z s av aR aG->d5 y av aR s₁.heap aG.heap rs vs->Q vs aG):
  wpAny (model prog w) A m Q (aV y bv' own Z s out) s₁:=by
 rcases be hk with⟨e,f,hm,rfl⟩|⟨r,f,hm,hk⟩
 .refine YW (H _ hm) (λv s' p=>?_) λaa aA x=>x.up hb S
  obtain⟨r,_,_,q,_⟩:=p;exact iX q
 .refine YW (H _ hm) (λv s' p=>?_) λaa aA x=>x.elim
  refine ag λG g=>?_
  obtain⟨r',ae,Z',q,I,S',R⟩:=p;obtain rfl:=iE q;exact g (K r f ae Z' s' v hm hk I S' (S.trans (S'.sub hb)) R)
theorem i6:∀ {xs:List Ex} {fr cT:Fm} {rs:List Rv},gr c xs fr=some (.ok rs,cT)->rs.length=xs.length:=by
 intro xs x1 x2 x3 h
 induction xs generalizing x1 x2 x3 with
 |nil=>obtain⟨rfl,rfl⟩:=sU h;rfl
 |cons x xs ih=>
  rw[dj]at h
  rcases be h with⟨_,_,_,q⟩|⟨a,f,_,q⟩
  .cases q
  .rcases be q with⟨_,_,_,q⟩|⟨a',f',h',q⟩
   .cases q
   .obtain⟨rfl,rfl⟩:=sU q;exact Er ZH (Er ZH (Er (ih h') rfl))
theorem DO {k:Nat} (F:F2 (λe x=>CE sc e x/\SE A c y (eval e env) x) es xs) (hl:xs.length<=1000):SE A c y (eval (.Tuple es k pos) env) (.tup xs):=by
 intro own Z s fr out h I;rw[yg]at h;refine Tuple_ (kB (bv:=bf xs) h .refl (λaa h=>h) (λo e=>qV F own Z s fr o e I) λrs aq ac aw s₁ vs bn h ai bb S R=>?_);obtain⟨q,hq,rfl⟩:=fS h;rw[Za]at hq;obtain⟨ds,hq⟩:=hq;refine Er hq.2.symm ?_;have hz:vs.length<=Sz:=by exact Er R.length.symm (Er (i6 bn) (Zh hl (by decide)))
 exact YV ((Op.newT (R.repAll hq.1) hz).post ai S) (by show vs.toArray.size<=sizeLine;refine Er Zo (Er b6.symm ?_);exact hz)
theorem zQ (F:F2 (λe x=>CE sc e x/\SE A c y (eval e env) x) es xs) (hl:xs.length<=1000):SE A c y (eval (.List es pos) env) (.list xs):=by
 intro own Z s fr out h I;rw[tM]at h;refine List_ (kB (bv:=bf xs) h .refl (λaa h=>h) (λo e=>qV F own Z s fr o e I) λrs aq ac aw s₁ vs bn h ai bb S R=>?_);obtain⟨q,hq,rfl⟩:=fS h;rw[Za]at hq;obtain⟨ds,hq⟩:=hq;refine Er hq.2.symm ?_;have hz:vs.length<=Sz:=by exact Er R.length.symm (Er (i6 bn) (Zh hl (by decide)))
 exact YV ((Op.newL (R.repAll hq.1) hz).post ai S) (by show vs.toArray.size<=sizeLine;refine Er Zo (Er b6.symm ?_);exact hz)
theorem kf {f:Value} {Q:Args->Shared->Prop} (F:F2 (λe x=>CE sc e x/\SE A c y (eval e env) x) es xs)
  (h:wpAny (model prog w) A (spliced (backTo pos (starEach es env))) (λvs s'=>Q ⟨vs,[]⟩ s') E s):wpAny (model prog w) A (evalArgs f true (backTo pos (starEach es env)) []) Q E s:=by
 cases es with
 |nil=>
  unfold evalArgs;refine YY (YW h (λvs s' h'=>wpAny_holding (YY (YU (YY (YU (YU h')))))) λaa aA x=>x)
 |cons e es=>
  cases xs with
  |nil=>exact F.elim
  |cons x xs=>
   rw[F.1.1.star env es]at h ⊢;exact Z6 h
theorem BN:vD y [] none:=⟨rfl,λk i h=>ah h,λi l aa h=>by refine fM h λaa aA h=>?_;exact ah h,λaa aA=>Zp,λaa aA bF h=>ah h⟩
inductive jm (A:Around) (y:Lay) (bv rb:List Nat) (own:Addr->Option Nat) (Z:Addr->Prop) (s:Shared) (out:Except Str Rv×Fm) (r:Result) (s':Shared):Prop
 |ok (v:Value):r = .ok (.ret v)->dB y (rb++bv) own Z s out v s'->jm A y bv rb own Z s out r s'
 |err (e:Value):r = .error e->aV y (rb++bv) own Z s out e s'->jm A y bv rb own Z s out r s'
set_option tactic.hygienic true in
theorem qr {as:List Nat} {J:Ins} (R:Rn A c n) (en:aN A sc env y) (hd:tb.fn[f]? = some d) (LS:sB f d J fa) (q:vD y as J)
  (h:fI c f as rs aq=some out) (ai:Inv y ac aw s₁.heap aq) (S:Step y bv own Z s ac aw s₁) (Rs:d5 y ac aw s.heap s₁.heap rs vs):
  codeAny (model prog w) A (.call (.ref fa) ⟨iR J++vs,[]⟩) (jm A y bv (sM (kI f) as) own Z s out) s₁:=by
 unfold fI at h
 split at h
 .exact ah h
 .rename_i ss K9
  split at h
  .refine ag λG1 g1=>?_
   rename_i nd;have key:∀iL aK,c.call c.hd f (er aq as++ss)=some (iL,aK)->codeAny (model prog w) A (.call (.ref fa) ⟨iR J++vs,[]⟩) (d7 J (kI f) (λa=>y.F a\/a=y.L) (fB ac (tV as++rs)) aw s₁ (er aq as++ss) vs iL aK) s₁:=λiL aK hc=>
    R.cs c.hd f _ iL aK hc d hd J fa LS A _ _ _ _ vs (le_of_succ_le R.dep) (Zh (Zl _ 4) R.un) R.hh en.stk (BC ai _) (qp ai q _) (sd ai Rs K9 nd q)
   split at h
   .exact g1 (ah h)
   .refine g1 ?_
    refine ag λG2 g2=>?_
    rename_i e' aK hc;refine g2 ?_;refine codeAny_mono (key _ _ hc) λr s' P=>?_
    refine Er (aI h).symm ?_;refine ag λG g=>?_
    obtain⟨ae,Z',I',S',⟨rv,v,q,_⟩|⟨nm,ea,q,rfl,X⟩⟩:=mM ai Rs K9 nd q P
    .exact g (iX q)
    .refine g ?_
     refine ag λG3 g3=>?_
     cases q;refine g3 ?_;exact .err _ rfl ⟨_,ea,ae,Z',rfl,rfl,I',(S.sub cw).trans (S'.sub bI),X.mono λb aa aA h=>⟨S.old b h.1,h.2⟩⟩
   .refine g1 ?_
    rename_i r aK hc
    split at h
    .exact ah h
    .rename_i dv O9
     refine Er (aI h).symm ?_;refine codeAny_mono (key _ _ hc) λr s' P=>?_
     obtain⟨ae,Z',I',S',⟨rv,v,q,rfl,R'⟩|⟨nm,ea,q,_⟩⟩:=mM ai Rs K9 nd q P
     rotate_left
     .exact CF q
     exact .ok v rfl (Er (iE q) (⟨_,ae,Z',rfl,I',(S.sub cw).trans (S'.sub bI),R'.since S.old⟩))
  .exact ah h
theorem jm.wp {Q:Value->Shared->Prop} (h:codeAny (model prog w) A (.call (.ref fa) ⟨vs,[]⟩) (jm A y bv rb own Z s out) s₁)
  (k:∀v s',dB y (rb++bv) own Z s out v s'->Q v s') (k':∀e s',aV y (rb++bv) own Z s out e s'->E e s'):wpAny (model prog w) A (call (.ref fa) vs) Q E s₁:=
 wpAny_call (codeAny_mono h λr s' P=>by
  cases P with
  |ok v e p=>subst e;exact k v s' p
  |err e e' p=>subst e';exact k' e s' p)
theorem sB.of (R:Rn A c n) (hf:tb.fn[f]? = some d/\f<tb.m0):∃fa o,mg d.name=some (.ref fa)/\B.get? fa=some o/\(∃pm code gk,o.data = .func (docDef d.name d.params d.body d.scope pm code gk))/\sB f d none fa:=by
 refine ag λG g=>?_
 obtain⟨a,o,pm,code,gk,hm,ho,hd,pR⟩:=R.gd.fn f d hf.2 hf.1;exact g (⟨a,o,hm,ho,⟨pm,code,gk,hd⟩,⟨λaa=>hf.2,λaa=>rfl⟩,o,d.name,pm,code,gk,ho,hd,pR⟩)
theorem z8 {as:List Nat} (h:f<tb.m0):sM (kI f) as=[]:=by unfold kI;rw[Y0 h];rfl
theorem zW {p:Pos} (R:Rn A c n) (en:aN A sc env y) (hf:tb.fn[f]? = some d/\f<tb.m0) (hg:sc.isG d.name)
  (F:F2 (λe x=>CE sc e x/\SE A c y (eval e env) x) es xs):SE A c y (eval (.Call (.Name d.name p) es [] pos) env) (.call f xs):=by
 intro own Z s fr out h I;rw[tP]at h;refine ag λG g=>?_
 obtain⟨a,o,hm,ho,⟨pm,code,gk,hd⟩,fa⟩:=sB.of R hf;refine g ?_;refine Call_Name rfl (eE R.gd en I hg hm ?_);refine Calls.callWith_function (o:=o) (fd:=docDef d.name d.params d.body d.scope pm code gk) (kf F ?_);refine kB (bv:=bf xs) h .refl (λaa h=>h) (λo e=>qV F own Z s fr o e I) λrs aq ac aw s₁ vs bn h ai bb S Rs=>?_
 refine⟨⟨ai.base a o ho,hd⟩,?_⟩;have q:=qr (bv:=bf xs) R en hf.1 fa BN h ai S Rs;rw[z8 hf.2]at q;exact jm.wp q (λv s' p=>p) λe s' p=>p
theorem Rn.big (R:Rn A c n) (I:Inv y own Z s.heap fr):3<s.heap.objs.size:=by
 exact iM R.gd.g λo aa aA q=>(ZZ (I.base _ _ q.1))
theorem Eg {b:Bi} {d:D} {a:Value} (hb:b.one=true) (he:ke b [d]=some r) (hh:b.loops=true->A.handled=none) (hs:3<s.heap.objs.size) (zl:∀b,Z b-> ∃o,s.heap.get? b=some o) (ra:dE s.heap Z a d):wpAny (model prog w) A (call (mW b) [a]) (Op Z s r) E s:=by
 cases b with
 |len=>
  rw[JB]at he;cases hl:Aw d with
  |none=>rw[hl]at he;exact ah he
  |some n=>rw[hl]at he;exact Er (aI he).symm (Ed hl ra)
 |isi t=>cases hb
 |sum=>
  cases d<;>first|exact ah he|skip
  refine aX (Z9 he) λn q=>?_;refine Er q.2.symm ?_
  exact Ea (hh rfl) q.1 ra
 |abs=>
  cases d<;>first|exact ah he|skip
  exact Er (aI he).symm (Eh ra)
 |int=>
  cases d<;>first|exact ah he|skip
  exact Er (aI he).symm (Ae ra)
 |tuple=>
  cases d<;>first|exact ah he|skip
  refine Er (aI he).symm ?_;exact uv ra
 |list=>
  cases d<;>first|exact ah he|skip
  refine Er (aI he).symm ?_;exact wv ra
 |_=>cases hb
theorem oz {b:Bi} {args:List (Bool×Sem Value)} {Q:Value->Shared->Prop} (gL:args.any (·.1)=false)
  (h:wpAny (model prog w) A (evalArgs (mW b) true args []) (λa s₁=>wpAny (model prog w) A (call (mW b) ([]++a.pos) a.kw) Q E s₁) E s):
  wpAny (model prog w) A (callWith pos (mW b) [] args []) Q E s:=by
 cases b with
 |len=>exact callWith_builtin (first:=[]) gL h
 |isi t=>exact callWith_builtin (first:=[]) gL h
 |sum=>exact callWith_builtin (first:=[]) gL h
 |abs=>exact callWith_builtin (first:=[]) gL h
 |int=>exact Y8 (first:=[]) gL h
 |tuple=>exact Y8 (first:=[]) gL h
 |list=>exact Y8 (first:=[]) gL h
 |_=>exact callWith_builtin (first:=[]) gL h
set_option tactic.hygienic true in
theorem D0 {b:Bi} {x:Ex} {p:Pos} (R:Rn A c n) (en:aN A sc env y) (hb:b.one=true) (hg:sc.isG (dw b)) (hc:CE sc e x) (H:SE A c y (eval e env) x):
  SE A c y (eval (.Call (.Name (dw b) p) [e] [] pos) env) (.bi b [x]):=by
 intro own Z s fr out h I;rw[mD]at h
 split at h
 .exact ah h
 .rename_i hl
  refine Call_Name (args:=[e]) rfl (di R.gd en I hg (fZ b) (hM b) (kc b) ?_);have F:F2 (λe x=>CE sc e x/\SE A c y (eval e env) x) [e] [x]:=⟨⟨hc,H⟩,(λi aa h=>by cases h),trivial⟩
  refine oz (by refine Er (hc.star env []) ?_;rfl) (kf F ?_);refine kB (bv:=bf [x]) h .refl (λaa h=>h) (λo e=>qV F own Z s fr o e I) λrs aq ac aw s₁ vs bn h ai bb S Rs=>?_
  obtain⟨r,rfl⟩:=List.length_eq_one_iff.mp (i6 bn:rs.length=1);obtain⟨v,Q⟩:=Rs.one;refine Er Q.1 ?_;cases hr:cj aq r with
  |none=>simp only[iB,iA,hr]at h;exact ah h
  |some d=>
   simp only[iB,iA,hr]at h;obtain⟨q,hq,rfl⟩:=iF h;refine YW (Eg hb hq (λh'=>R.hh ?_) (R.big ai) ai.zlv (Q.2.dat ai (nu hr))) (λv s' p=>p.post ai S) λaa aA x=>x
   cases hh:c.hd with
   |false=>rfl
   |true=>exact absurd (by refine Er hh (Er h' ?_);rfl) hl
theorem qM (t:Ty):(cE t:Str)∈jg:=by cases t<;>(dsimp only[cE];decide)
theorem t9 (t:Ty) :(cE t:Str)≠("__name__" :Str):=by cases t <;> (dsimp only [cE]; decide)
set_option tactic.hygienic true in
theorem DX {t:Ty} {e:Expr} {x:Ex} {p p' pos:Pos} (R:Rn A c n) (en:aN A sc env y) (hg:sc.isG "isinstance") (IA:sc.isG (cE t)) (hc:CE sc e x) (H:SE A c y (eval e env) x) :
  SE A c y (eval (.Call (.Name "isinstance" p) [e,.Name (cE t) p'] [] pos) env) (.bi (.isi t) [x]):=by
 intro own Z s fr out h I;rw[mD]at h;rw[Y1 (by simp[Bi.loops])]at h;refine Call_Name (args:=[e,.Name (cE t) p']) rfl (di R.gd en I hg (fZ (.isi t)) (hM (.isi t)) (kc (.isi t)) ?_);refine oz (b:=.isi t) (by rw[hc.star env];rfl) ?_;rw[hc.star env];refine Z6 (Z5 ?_);rw[dj]at h;refine cB (bv:=aS x) (bv':=aS x++[]) (k:=λr fr=>match cj fr r with|some d=>rg fr (ke (.isi t) [d])|none=>none) (out:=out) ?_ .refl bI (λo e=>H own Z s fr o e I) λr aq ac aw s₁ v bn h ai bb S R1=>?_
 .rcases he:ev c x fr with _|⟨_|r,f⟩
  .rw[he]at h;exact h
  .rw[he]at h;exact h
  .rw[he]at h
   refine Eq.trans ?_ h;simp only[Bg,fq,iB,iA];cases cj f r with
   |none=>rfl
   |some d=>rfl
 .split at h
  .rename_i d hd
   obtain⟨q,hq,rfl⟩:=iF h;exact Er (aI hq).symm (Z5 (di R.gd en ai IA (qM t) (t9 t) (BJ t) (Z4 (YW (Ee t (R1.dat ai hd)) (λv s' p=>p.post ai S) λaa aA x=>x))))
  .exact ah h
theorem kP {Q:Value->Shared->Prop} (gd:Gd c.glob) (en:aN A sc env y) (I:Inv y own Z s.heap fr) (hx:sc.isG x) (hv:mg x=some V\/(mg x=none/\mb x=some V)) (h:Q V s):
  wpAny (model prog w) A (eval (.Name x pos) env) Q E s:=by
 rcases hv with hv|⟨h1,h2⟩
 .exact eE gd en I hx hv h
 .exact Calls.Name_function_global en.kind (en.gl x hx.1) (Calls.loadGlobal_builtin (by refine Er en.glob ?_;exact gd.g.keeps I.base) h1 (by refine Er en.blt ?_;exact gd.b.keeps I.base) h2 h) hx.2
theorem ye {k:Str} (gd:Gd c.glob) (I:Inv y own Z s.heap fr) (sv:dA s.heap Z (λa=>own a=none) (.exc k) v):∃a o C,v = .ref a/\s.heap.get? a=some o/\(o.cls = .ref C/\o.dict=none/\ ∃vs,o.data = .fields vs)/\mg k=some (.ref C):=by
 refine lM sv λa o C m sv=>?_;refine Er sv.1 ?_;have za:=sv.2.1;have e:=sv.2.2.1;have hc:=sv.2.2.2.1;have zm:=sv.2.2.2.2.1;have hn:=sv.2.2.2.2.2.1;have hm:=sv.2.2.2.2.2.2
 refine⟨a,o,C,rfl,e,hc,?_⟩;refine iM (gd.g.keeps I.base) λo' CD CH q=>?_;have lC:=q.1;have c5:=q.2.1;have eF:=q.2.2.1;have AY:=q.2.2.2
 refine iM hn λo es ep hn=>?_
 rw[hn.1]at lC;obtain rfl:=aI lC;have c5:=hn.2.1▸c5;cases c5;rw[<- hn.2.2.2,AY]at hm;exact hm
theorem uW {no:List Str} {k:Str} (gd:Gd c.glob) (I:Inv y own Z s.heap fr) (ha:∀k C,mg k=some (.ref C)->(k∈yes->eN B C V true)/\(k∈no->eN B C V false)) (hb:(b=true/\k∈yes)\/(b=false/\k∈no))
  (sv:dA s.heap Z (λa=>own a=none) (.exc k) v):∃a o C,v = .ref a/\s.heap.get? a=some o/\(o.cls = .ref C/\o.dict=none/\ ∃vs,o.data = .fields vs)/\eN B C V b:=by
 refine iM (ye gd I sv) λa o C q=>?_;refine Er q.1 ?_
 refine⟨a,o,C,rfl,q.2.1,q.2.2.1,?_⟩
 rcases hb with⟨rfl,hb⟩|⟨rfl,hb⟩
 .exact(ha k C q.2.2.2).1 hb
 .exact(ha k C q.2.2.2).2 hb
theorem ta {k:Str} {no:List Str} (h:(if yes.contains k=true then some (.ok (.fz (.bool true)),fr) else if no.contains k=true then some (.ok (.fz (.bool false)),fr) else none)=some out):∃b,((b=true/\k∈yes)\/(b=false/\k∈no))/\out=(.ok (.fz (.bool b)),fr):=by
 by_cases q:yes.contains k=true
 .rw[Y0 q]at h;exact⟨true,.inl ⟨rfl,contains_iff_mem.mp q⟩,(aI h).symm⟩
 .rw[Y1 q]at h
  by_cases q:no.contains k=true
  .rw[Y0 q]at h;exact⟨false,.inr ⟨rfl,contains_iff_mem.mp q⟩,(aI h).symm⟩
  .rw[Y1 q]at h;exact ah h
set_option tactic.hygienic true in
theorem DW {x cn:Str} {i:Nat} {yes no:List Str} {p p1 p2 pos:Pos} (R:Rn A c n) (en:aN A sc env y) (hg:sc.isG "isinstance") (hx:sc.isV x i) (hc:sc.isG cn) (hs:tb.sub.lookup cn = some (yes,no)) :
  SE A c y (eval (.Call (.Name "isinstance" p) [.Name x p1,.Name cn p2] [] pos) env) (.isx i yes no):=by
 intro own Z s fr out h I;rw[n9]at h;refine ag λG g=>?_
 refine aX (R.gd.ask cn yes no hs) λV z=>?_
 split at h
 .refine g ?_
  rename_i k hk;obtain⟨l,v,hl,hr,sv⟩:=I.at' i _ hk (by intro q;cases q);refine aX (ta h) λb u=>?_;refine Er u.2 ?_
  refine iM (uW R.gd I z.2 u.1 sv) λa o C Q=>?_;obtain rfl:=Q.1
  refine Call_Name (args:=[.Name x p1,.Name cn p2]) rfl (di R.gd en I hg (fZ (.isi .int)) (hM (.isi .int)) (kc (.isi .int)) ?_);exact oz (b:=.isi .int) rfl (Z6 (Z5 (eH en hx hl hr (Z5 (kP R.gd en I hc z.1 (Z4 ((Q.2.2.2 prog w A _ s a o I.base Q.2.1 Q.2.2.1).2 _ λtk=>.val (s':= {s with toks:=tk}) I (aQ .refl) (.bool b))))))))
 .exact g (ah h)
theorem FZ {p:Addr×Obj} (J:jV sc env y p dx) (wf:y.Wf) (df:sc.ats≠ []):vD y sc.as (some (p.1,p.2,dx)) where
 len:=J.len
 at':=λk i h=>by
  obtain⟨a,Q⟩:=J.as k i h;exact⟨_,map_eq_some_iff.mpr ⟨a,Q.1,rfl⟩,Q.2⟩
 full:=λi l hl ⟨x,o,e⟩=>by
  have e:=(Y7 (·.2.2) (Y9 e)).symm;refine aX (List.getElem?_of_mem (J.full i l hl e)) λk hk=>?_
  obtain⟨a,ha⟩:=J.zd i l hl e;exact⟨k,_,_,a,hk,ha⟩
 si:=λq e m=>by
  refine aX (List.getElem?_of_mem m) λk hk=>?_
  obtain⟨a,Z⟩:=J.as k _ hk;have hl:=Z.2;have hl:=J.ls▸hl;cases hl
 slf:=λx o d e=>by
  cases e;refine⟨J.slf,J.cls,J.nc,J.dic,J.ne,?_⟩;cases q:sc.ats with
  |nil=>exact absurd q df
  |cons z zs=>
   obtain⟨a,_,hl⟩:=J.as 0 z.2 (by unfold Sc.as;refine Er q ?_;rfl);exact⟨_,a,hl⟩
theorem oX:∀ {es:List Expr} {xs:List Ex},F2 (λe x=>CE sc e x/\SE A c y (eval e env) x) es xs->(backTo pos (starEach es env)).all (λx=>!x.1)=true:=by
 intro es
 induction es with
 |nil=>intro xs _;rfl
 |cons e es ih=>
  intro xs F;cases xs with
  |nil=>exact F.elim
  |cons x xs=>
   exact Er (F.1.1.star env es) (and_eq_true_iff.mpr ⟨rfl,ih F.2.2⟩)
theorem m3 {o:Expr} {name:Str} {Q:Value->Shared->Prop} (IL:attributeBase o name env (eval o env)=eval o env) (F:F2 (λe x=>CE sc e x/\SE A c y (eval e env) x) es xs) (hn:es.length<=28) (Iu:(cW.endLine==pos.line)=true)
  (h:wpAny (model prog w) A (eval o env) (λov s₁=> ∀pl,wpAny (model prog w) A (getMethod ov name pl) (λfv aG=>wpAny (model prog w) A (callWith pos fv.1 fv.2 (backTo pos (starEach es env)) []) Q E aG) E s₁) E s):
  wpAny (model prog w) A (eval (.Call (.Attribute o name cW) es [] pos) env) Q E s:=by
 rw[arm_eval_Call];refine Er IL ?_;refine YY (YW h (λov s₁ h₁=>?_) λaa aA e=>e);refine YY (wpAny_standAt ?_);have IB:methodCallForm (es.length+([]:List Keyword).length) (backTo pos (starEach es env)) (backToKw pos (keywordEach [] env))=true:=by
  unfold methodCallForm;exact Er (oX F) (Y5 (show es.length<30 from Zf hn (by decide)))
 have Lh:methodCallPos true o env cW pos=pure pos:=by unfold methodCallPos;simp[Iu]
 unfold methodCall;refine Er IB ?_;refine YY (wpAny_holding (YW (h₁ _) (λfv aG cy=>?_) λaa aA x=>x));exact YY (wpAny_of_eq Lh cy)
theorem sW {p:Addr×Obj} {out:Except Str β×Fm} {own:Addr->Option Nat} {Z:Addr->Prop} {s:Shared} {fr:Fm} {Q:Value->Shared->Prop} {pl:Sem Bool} {k:List Rv->Fm->cA β} (R:Rn A c n) (en:aN A sc env y) (J:jV sc env y p dx) (df:sc.ats≠ []) (hf:tb.fn[f]? = some d/\tb.m0<=f)
  (F:F2 (λe x=>CE sc e x/\SE A c y (eval e env) x) es xs) (I:Inv y own Z s.heap fr) (h:aT (gr c xs fr) k=some out) (kE:∀e s',aV y (bf xs) own Z s out e s'->E e s')
  (K:∀rs aq,k rs aq=some out-> ∃o,fI c f sc.as rs aq=some o/\(∀v s',dB y (sM (kI f) sc.as++bf xs) own Z s o v s'->Q v s')/\ ∀e s',aV y (sM (kI f) sc.as++bf xs) own Z s o e s'->E e s'):
  wpAny (model prog w) A (getMethod (.ref p.1) d.name pl) (λfv aG=>wpAny (model prog w) A (callWith pos fv.1 fv.2 (backTo pos (starEach es env)) []) Q E aG) E s:=by
 refine ag λG g1=>?_
 refine fM J.cls λcr C j=>?_
 refine ag λG1 g2=>?_
 refine iM (R.gd.pl cr j.1) λC' N mN U=>?_;have rI:=U.1;have P:=U.2.1;have jn:=U.2.2.1;have Kd:=U.2.2.2
 have rI:=j.2.1▸rI;cases rI;refine ag λG2 g3=>?_
 obtain⟨EU,MX,z,hz⟩:=Kd f d hf.2 hf.1;refine ag λG3 g4=>?_
 obtain⟨fa,o,pm,cd,gk,h1,h2,h3,h4,h5⟩:=P.meths _ EU;have q:=FZ J I.wf df;refine ag λG4 g5=>?_
 obtain⟨_,_,_,_,_,i0,a0,Oh⟩:=q.slf _ _ _ rfl;refine ag λG5 g=>?_
 refine aX (I.ok i0 _ Oh) λmA q0=>?_
 have MT:mA d.name=none:=by
  cases e:mA d.name with
  |none=>rfl
  |some v=>exact absurd (q0.2 d.name (by refine Er e ?_;exact λq=>by cases q)) MX
 refine ag λG6 g6=>?_
 obtain ⟨nm,qn,bs,sn,sub,col,OP,k0,k1,k2,k3,k5,Cv⟩:=(P.cls.keeps I.base).obj;refine g6 ?_;refine g ?_;refine g5 ?_;refine g4 ?_;refine g3 ?_;refine g2 ?_;refine g1 ?_;refine method_of Cv (P.cls.keeps I.base).ns (P.quiet _ (Zx _ (by decide))) (P.quiet _ (Zx _ (by decide))) h1 (I.base _ _ h2) h3 hz ⟨p.2,(I.sf p J.slf).ob,j.2.2,J.nc,.inr ⟨dx,J.dic,J.ne,q0.1⟩⟩ MT ?_;refine Calls.callWith_function (o:=o) (fd:=methDef d.name (cr.name ++ "." ++ d.name) d.params d.body d.scope pm cd gk) (kf F ?_);refine YW (kB (bv:=bf xs) h .refl (fun aa h=>h) (fun o e=>qV F own Z _ fr o e I) fun rs aq ac aw s₁ vs bn h ai bb S Rs=>?_) (fun aa aA x=>x) fun e s' x=>kE e s' x
 refine aX (K rs aq h) λo' u=>?_
 refine⟨⟨ai.base fa o h2,h4⟩,?_⟩;exact jm.wp (qr (bv:=bf xs) R en hf.1 (⟨⟨λq=>ah q.symm,λq=>absurd hf.2 (Nat.not_le.mpr q)⟩,o,_,pm,cd,gk,h2,h4,h5⟩) q u.1 ai S Rs) u.2.1 u.2.2
theorem vY {f:Nat} {d:DefRec} {x:Str} {p ap pos:Pos} {es:List Expr} {xs:List Ex} (R:Rn A c n) (en:aN A sc env y) (hf:tb.fn[f]? = some d∧tb.m0 < f∧tb.rb[f - tb.m0]? = some []) (hx:x = sc.sn∧(x == ("__debug__" :Str)) = false∧sc.ats≠ []) (hl:(ap.endLine == pos.line) = true)
  (F:F2 (λe x=>CE sc e x/\SE A c y (eval e env) x) es xs) (hn:es.length<=28):SE A c y (eval (.Call (.Attribute (.Name x p) d.name ap) es [] pos) env) (.mcall f sc.as xs):=by
 intro own Z s fr out h I;rw[p9]at h;refine fM (en.ins hx.2.2) λpp dx J=>?_
 have hr:sM (kI f) sc.as=[]:=by unfold kI;refine Er (Y1 (Nat.not_lt.mpr (le_of_lt hf.2.1))) (Er hf.2.2 ?_);rfl
 exact m3 rfl F hn hl (gU J en I hx.1 hx.2.1 λpl=>(sW R en J hx.2.2 ⟨hf.1,le_of_lt hf.2.1⟩ F I h (λe s' p=>p) λrs aq h=>⟨_,h,λv s' p=>by rw[hr]at p;exact p,λe s' p=>by rw[hr]at p;exact p⟩))
theorem cZ {d d':D} (I:Inv y own Z s.heap fr) (hs:fr[i]? = some (.own d)) (hl:y.loc i=some l) (hr:eG s.heap l (.ref a)) (oa:own a=some i)
  (pN:Heap.SameBut a s.heap h') (W:bT h' Z a d'):Inv y own Z h' (fr.set i (.own d'))/\Step y [] own Z s own Z {s with heap:=h'}:=by
 have on:own a≠none:=by exact Er oa (λn=>by cases n)
 refine⟨I.setC hs hl hr oa (λb o q e=>pN.extBut b o q e) W,⟨⟨_,_,rfl⟩,⟨λb o e nw nf=>pN.extBut b o (λq=>nw (.inl (q▸on))) e,λb o e=>?_,λb o f e=>⟨o.slots,pN.extBut b o (λq=>I.oF a on (q▸f)) e⟩⟩,λaa z=>z,λaa z=>.inl z,λaa aA e=>.inl e,λj k v aa hk r=>r.keeps λo e=>pN.extBut _ o (λq=>on (q▸I.ol j k hk)) e⟩⟩
 by_cases q:b=a
 .subst q;exact W.live
 .exact⟨o,pN.extBut b o q e⟩
theorem bo {d:D} (h:cb fr (.var i)=some d):fr[i]? = some (.own d):=by
 simp only[cb]at h
 split at h
 .refine Er (aI h).symm ?_;assumption
 .exact ah h
theorem rV:∀l:List α,l.eraseIdx (l.length-1)=l.dropLast:=by
 intro l
 induction l with
 |nil=>rfl
 |cons a l ih=>
  cases l with
  |nil=>rfl
  |cons b t=>exact Y7 (a :: ·) ih
theorem am.last {ds:List D} {d:D} (r:am h Z vs ds) (e:ds.getLast? = some d):∃v,vs[vs.length-1]? = some v/\b5 h Z v d:=by
 rw[List.getLast?_eq_getElem?]at e;exact Er r.length (r.get e)
theorem am.dropLast {ds:List D} (r:am h Z vs ds):am h Z vs.dropLast ds.dropLast:=by
 exact Er List.dropLast_eq_take (Er List.dropLast_eq_take (Er r.length (r.take _)))
theorem kK {o:Expr} (hx:PE sc o i):attributeBase o nm env (eval o env)=eval o env:=by
 cases hx with
 |nm hx=>rfl
 |atr hx=>rfl
set_option tactic.hygienic true in
theorem Aa (h:ev c (.pop (.var i)) fr=some out):∃xs d,fr[i]? = some (.own (.list xs))/\xs.getLast? = some d/\out=(.ok (.fz d),fr.set i (.own (.list xs.dropLast))):=by
 rw[rR]at h;cases q:cb fr (.var i) with
 |none=>rw[q]at h;exact ah h
 |some o=>
  have h:=q▸h;refine ag λG g=>?_
  cases o<;>first|exact ah h|skip
  rename_i xs;have h:=h;unfold pc at h;dsimp only at h;cases e:xs.getLast? with
  |none=>refine g ?_;rw[e]at h;exact ah h
  |some d=>refine g ?_;have h:=e▸h;exact⟨xs,d,(bo q),e,(aI h).symm⟩
theorem DQ {o:Expr} {i:Nat} {ap pos:Pos} (R:Rn A c n) (en:aN A sc env y) (hx:PE sc o i) (hl:(ap.endLine == pos.line) = true) :SE A c y (eval (.Call (.Attribute o "pop" ap) [] [] pos) env) (.pop (.var i)):=by
 intro own Z s fr out h I;refine ag λG g=>?_
 refine fM (Aa h) λxs d u=>?_;obtain rfl:=u.2.2
 obtain⟨l,v,Lu,hr,a,rfl,oa,W⟩:=I.at' i _ u.1 (by intro q;cases q);refine g ?_;refine wpAny_Call_method0_late (kK hx) hl (j8 R.gd en I hx Lu hr rfl λtk=>?_);refine ag λG1 g1=>?_
 cases W with
 |@list vs m ds hil hz RA=>
  refine g1 ?_;refine aX (RA.last u.2.1) λv U=>?_
  refine ⟨"list","list.pop",PySem.F.plainAttrs_list,PySem.F.slot_list_pop,PySem.F.type_list_pop,⟨_,hil,rfl⟩,(fun b e=>by cases e; exact ⟨_,hil,rfl⟩),?_⟩;refine PySem.P.pop_list (s:= {s with toks:=tk}) (y:=v) hil (by refine Er Zo (Er (List.getElem?_toArray) ?_); exact U.1) ?_ (by refine Er Zo (Er b6.symm ?_); exact hz);have up:=IsL.update hil fun xs=>xs.eraseIdxIfInBounds (vs.toArray.size - 1)
  generalize hH:s.heap.update a (Obj.mapSeq λxs=>xs.eraseIdxIfInBounds (vs.toArray.size-1))=H at up;have sb:=hH▸Heap.SameBut.update ..;have kz:∀b o,Z b->s.heap.get? b=some o->H.get? b=some o:=λb o z e=>sb.extBut b o (λq=>by have:=I.zo b z;rw[q]at this;have this:=oa▸this;cases this) e
  have EL:vs.toArray.eraseIdxIfInBounds (vs.toArray.size-1)=vs.dropLast.toArray:=by
   refine Er Zo ?_;unfold Array.eraseIdxIfInBounds;rw[dif_pos (show vs.length-1<vs.toArray.size from((List.getElem?_eq_some_iff.mp U.1).1)),List.eraseIdx_toArray,rV]
  rw[EL]at up;have W':bT H Z a (.list xs.dropLast):=.list up (Zh (by refine Er List.length_dropLast ?_;exact Nat.sub_le _ _) hz) (RA.mono kz λaa z=>z).dropLast;refine⟨_,own,Z,rfl,(cZ I u.1 Lu hr oa sb W').1,?_,U.2.mono kz λaa z=>z⟩;exact aQ (tk:=tk) (cZ I u.1 Lu hr oa sb W').2
theorem mU (m:cA α) (f:α->Fm->cA β) (g:β->Fm->cA γ):aT (aT m f) g=aT m λa fr=>aT (f a fr) g:=by
 rcases m with _|⟨_|a,fr⟩<;>rfl
theorem Hi (ce:CE sc e z) (H:SE A c y (eval e env) z):∀ {es:List Expr} {xs:List Ex},F2 (λe x=>CE sc e x/\SE A c y (eval e env) x) es xs->(∀x∈xs, ∀p,x≠ .pl p)-> ∀(own:Addr->Option Nat) (Z:Addr->Prop) (s:Shared) (fr:Fm) (out:Except Str Rv×Fm) (k:List D->Rv->Fm->cA Rv) (Q:List Value->Shared->Prop),
  aT (gr c xs fr) (λrs fr=>match b9 rs with|some ds=>aT (ev c z fr) (λr fr=>k ds r fr)|none=>none)=some out->Inv y own Z s.heap fr->
  (∀ds r cT ae Z' s' vs v,k ds r cT=some out->Inv y ae Z' s'.heap cT->Step y (bf xs++aS z) own Z s ae Z' s'->am s'.heap Z' vs ds->d6 y ae Z' s.heap s'.heap r v->Q (vs++[v]) s')->
  wpAny (model prog w) A (spliced (backTo pos (starEach (es++[e]) env))) Q (aV y (bf xs++aS z) own Z s out) s:=by
 intro es
 induction es with
 |nil=>
  intro xs F np own Z s fr out k Q h I K;cases xs with
  |cons x xs=>exact F.elim
  |nil=>
   exact spliced_more (cB (bv:=aS z) h .refl cw (λo e=>H own Z s fr o e I) λr aq ac aw s₁ v bn h ai bb S R=>spliced_none (K [] r aq ac aw s₁ [] v h ai S .nil R)) (ce.star env [])
 |cons e0 es ih=>
  intro xs F np own Z s fr out k Q h I K;cases xs with
  |nil=>exact F.elim
  |cons x xs=>
   rw[dj,mU]at h;refine spliced_more (cB (bv:=aS x) (bv':=bf (x::xs)++aS z) h .refl (λi hi=>bI i (bI i hi)) (λo e=>F.1.2 own Z s fr o e I) λr aq ac aw s₁ v bn h ai bb S R=>?_) (F.1.1.star env (es++[e]));refine aX (CB x fr (np x Zt) r aq bn) λd hd=>?_
   obtain⟨aR,aF,aY,fy⟩:=R.freeze ai S hd;have h:aT (gr c xs aq) (λrs fr=>match b9 rs with|some ds=>aT (ev c z fr) (λr fr=>k (d::ds) r fr)|none=>none)=some out:=by
    rw[mU]at h;refine Eq.trans ?_ h
    rcases gr c xs aq with _|⟨_|rs,f⟩
    .rfl
    .rfl
    .show(match b9 rs with|some ds=>_|none=>none)=(match (match bQ r,b9 rs with|some d,some ds=>some (d::ds)|_,_=>none) with|some ds=>_|none=>none)
     refine Er hd ?_;cases b9 rs<;>rfl
   refine YW (ih F.2.2 (mc np) ac aR s₁ aq out (λds=>k (d::ds)) (λvs s'=>Q (v::vs) s') h aF λds r' cT ae Z' s' vs v' hk I' S' RA R'=>?_) (λaa aA x=>x) λe s' p=>p.sub (λi hi=>(mem_append.mp hi).elim (λhi=>bI i (cw i hi)) (cw i)) aY
   exact K (d::ds) r' cT ae Z' s' (v::vs) v' hk I' (aY.trans (S'.sub λi hi=>(mem_append.mp hi).elim (λhi=>bI i (cw i hi)) (cw i))) (.cons (S'.rep aF fy) RA) (R'.since aY.old)
theorem FH {al:Addr} {ds:List D} {dl:D} (R:Rn A c n) (en:aN A sc env y) (hd:tb.fn[f]? = some d) (LS:sB f d none fa) (ai:Inv y ac aw s₁.heap aq) (S:Step y bv own Z s ac aw s₁) (RA:am s₁.heap aw vs ds)
  (h0:s.heap.get? al=none) (nw:¬y.wr ac al) (nf:¬y.F al) (nz:¬aw al) (wa:bT s₁.heap aw al dl) (h:fk c f ds (.own dl) aq=some out):
  codeAny (model prog w) A (.call (.ref fa) ⟨vs++[.ref al],[]⟩) (jm A y bv [] own Z s out) s₁:=by
 have e1:ac al=none:=by
  cases q:ac al with
  |none=>rfl
  |some i=>exact absurd (.inl (by refine Er q ?_;exact λn=>by cases n)) nw
 let ow:Addr->Option Nat:=λa=>if a=al then some ds.length else none
 have NU:ow al=some ds.length:=Y0 rfl;have J3:∀a,ow a≠none->a=al:=λa q=>by
  by_cases e:a=al
  .exact e
  .exact absurd (Y1 e) q
 have KO:∀a,a≠al->ow a=none:=λa e=>Y1 e
 have gh:Gh (λa=>y.F a\/a=y.L) ow aw s₁.heap:=⟨ai.base,ai.zb,λa z=>KO a λe=>nz (e▸z),λa z f=>f.elim (ai.zF a z) λe=>ai.zL (e▸z),λa q f=>by
   have e:=J3 a q;subst e;exact f.elim nf λe=>nw (.inr (.inl e)),ai.zlv,λa q=>by have e:=J3 a q;subst e;exact wa.live,λa f=>f.elim (ai.flv a) λe=>let ⟨m,o,_,_,h,hd,_⟩:=ai.nsL;⟨o,e▸h,λvs q=>by have q:=hd▸q;cases q⟩⟩
 have sl:hO none ow aw s₁.heap (ds.map .fz++[.own dl]) (vs++[.ref al]):=by
  refine⟨by simp[j7,RA.length],λk sl l aa h=>ah h,λk sl v e e'=>?_⟩;have e:(ds.map Slot.fz++[.own dl])[k]? = some sl:=by exact Er (Nat.zero_add k).symm e
  by_cases hk:k<ds.length
  .rw[ZM (by rw[ZG];exact hk),ZJ]at e
   have e':=(ZM (by refine Er RA.length ?_;exact hk))▸e';refine aX (Z9 e) λd' u=>?_;refine Er u.2.symm ?_
   refine aX (RA.get u.1) λv' Q=>?_
   have e':=Q.1▸e';refine Er (aI e').symm ?_;exact⟨(λq=>by cases q),Q.2⟩
  .have hk:=Nat.not_lt.mp hk
   rw[ZL (by rw[ZG];exact hk),ZG]at e;rw[ZL (by refine Er RA.length ?_;exact hk)]at e';have e':=RA.length▸e';have M7:k-ds.length=0:=by
    cases q:k-ds.length with
    |zero=>rfl
    |succ m=>have e:=q▸e;exact ah e
   rw[M7]at e e';refine Er (aI e).symm ?_;refine Er (aI e').symm ?_;refine⟨(λq=>by cases q),al,rfl,?_,wa⟩;show ow al=some (j7 none+k)
   refine Er NU ?_;have:k=ds.length:=Zk (Nat.sub_eq_zero_iff_le.mp M7) hk;exact Er this (Y7 some (Nat.zero_add _).symm)
 have key:∀iL aK,c.call c.hd f (ds.map .fz++[.own dl])=some (iL,aK)->codeAny (model prog w) A (.call (.ref fa) ⟨vs++[.ref al],[]⟩) (d7 none (kI f) (λa=>y.F a\/a=y.L) ow aw s₁ (ds.map .fz++[.own dl]) (vs++[.ref al]) iL aK) s₁:=λiL aK hc=>
  R.cs c.hd f _ iL aK hc d hd none fa LS A _ _ _ _ _ (le_of_succ_le R.dep) (Zh (Zl _ 4) R.un) R.hh en.stk gh (λaa aA bF h=>ah h) sl
 have back:∀ {Hx:Addr->Option Nat} {Z':Addr->Prop} {s':Shared},Gh (λa=>y.F a\/a=y.L) Hx Z' s'.heap->y2 none (kI f) (λa=>y.F a\/a=y.L) ow aw s₁ Hx Z' s'->Inv y ac Z' s'.heap aq/\Step y bv own Z s ac Z' s':=fun {Hx Z' s'} G T=>by
  have nx:∀a, ¬uY none a:=λa ⟨_,_,h⟩=>ah h
  have keep:∀a o,s₁.heap.get? a=some o->a≠al-> ¬y.F a->a≠y.L->s'.heap.get? a=some o:=λa o e n f l=>T.ext.keep a o e (λw=>w.elim (λw=>n (J3 a w)) (nx a)) λw=>w.elim f l
  have kz:∀a o,aw a->s₁.heap.get? a=some o->s'.heap.get? a=some o:=λa o z e=>keep a o e (λq=>nz (q▸z)) (ai.zF a z) λq=>ai.zL (q▸z)
  have ko:∀a o,ac a≠none->s₁.heap.get? a=some o->s'.heap.get? a=some o:=λa o z e=>keep a o e (λq=>z (q▸e1)) (ai.oF a z) λq=>z (q▸ai.oL)
  have vT:∀o,s₁.heap.get? y.L=some o-> ∃sl,s'.heap.get? y.L=some {o with slots:=sl}:=λo e=>T.ext.fram y.L o (.inr rfl) e
  have nl:∀i l,y.loc i=some l->l.addr≠al:=λi l hl q=>nw (.inr (.inr ⟨i,l,hl,q⟩))
  have vF:∀i l v,y.loc i=some l->eG s₁.heap l v->eG s'.heap l v:=λi l v hl hv=>by
   by_cases e:l.addr=y.L
   .cases l with
    |dict a x=>obtain⟨m,hv⟩:=hv;subst e;exact⟨m,ch hv.1 vT,hv.2⟩
    |cell a=>exact absurd e (ai.wf.cl i a hl)
    |attr a ns x=>exact absurd e (ai.wf.al i a ns x hl)
   .exact hv.keeps λo e'=>keep _ o e' (nl i l hl) (ai.wf.nf i l hl) e
  have Ei:∀i l,y.loc i=some l->nI s'.heap l:=λi l hl=>by
   have hv:=ai.ok i l hl
   by_cases e:l.addr=y.L
   .cases l with
    |dict a x=>obtain⟨m,hn⟩:=hv;subst e;exact⟨m,ch hn vT⟩
    |cell a=>exact absurd e (ai.wf.cl i a hl)
    |attr a ns x=>exact absurd e (ai.wf.al i a ns x hl)
   .exact hv.keeps λo e'=>keep _ o e' (nl i l hl) (ai.wf.nf i l hl) e
  have zn:∀a,Z' a->aw a\/a=al\/s₁.heap.get? a=none:=λa z=>(T.zn a z).imp id λq=>q.imp (J3 a) id
  have C5:∀i l,y.loc i=some l-> ¬Z' l.addr:=λi l hl z=>by
   obtain⟨o,e⟩:=(ai.ok i l hl).live
   rcases zn _ z with z|z|z
   .exact ai.zl i l hl z
   .exact nl i l hl z
   .rw[z]at e;exact ah e
  refine⟨⟨ai.wf,G.base,G.zb,λa z=>?_,C5,ai.ol,λz=>G.zF _ z (.inr rfl),ai.oL,λa z f=>G.zF a z (.inl f),ai.oF,G.zlv,λa q=>?_,λa f=>G.flv a (.inl f),Ei,?_,λp e=>(ai.sf p e).mono kz T.zm λl v hl r=>vF _ l v hl r,λi s0 e n=>?_⟩,⟨?_,⟨λa o e w f=>keep a o (S.ext.keep a o e w f) (λq=>by rw[q,h0]at e;exact ah e) f λq=>w (.inr (.inl q)),λa o e=>let ⟨o',e'⟩:=S.ext.live a o e;T.ext.live a o' e',λa o f e=>let ⟨sl,e'⟩:=S.ext.fram a o f e;let ⟨qU,Bm⟩:=T.ext.fram a _ (.inl f) e';⟨qU,Bm⟩⟩,λa z=>T.zm a (S.zm a z),λa z=>?_,S.on,λi l v hb hl hv=>vF i l v hl (S.bind i l v hb hl hv)⟩⟩
  .rcases zn a z with z|z|z
   .exact ai.zo a z
   .exact z▸e1
   .cases q:ac a with
    |none=>rfl
    |some i=>obtain⟨o,e⟩:=ai.olv a (by refine Er q ?_;exact λn=>by cases n);rw[z]at e;exact ah e
  .refine aX (ai.olv a q) λo e=>?_;exact T.ext.live a o e
  .obtain⟨m,hn⟩:=ai.nsL;exact⟨m,ch hn vT⟩
  .obtain⟨l,v,hl,hv,sv⟩:=ai.at' i s0 e n
   exact⟨l,v,hl,vF i l v hl hv,sv.mono kz T.zm (λaa q=>q) λa o q=>ko a o (by refine Er q ?_;exact λn=>by cases n)⟩
  .refine fM S.sh λh1 t1 e=>?_;refine fM T.sh λh2 t2 e'=>?_;subst e;exact⟨h2,t2,e'⟩
  .rcases zn a z with z|z|z
   .exact S.zn a z
   .exact .inr (.inr (z▸h0))
   .exact .inr (.inr (S.old a z))
 unfold fk at h;dsimp only at h
 rcases hc:c.call c.hd f (List.map Slot.fz ds++[Slot.own dl]) with _|⟨e|r,aK⟩
 .have h:=hc▸h;exact ah h
 .have h:=hc▸h
  refine codeAny_mono (key _ _ hc) λr s' P=>?_
  refine Er (aI h).symm ?_;refine ag λG1 g=>?_
  obtain⟨Hx,Z',G,_,T,_,_,_,⟨rv,v,q,_⟩|⟨nm,ea,q,rfl,X⟩⟩:=P
  .exact g (iX q)
  .refine g ?_
   refine ag λG2 g1=>?_
   cases q;refine g1 ?_;exact .err _ rfl ⟨_,ea,ac,Z',rfl,rfl,(back G T).1,(back G T).2,X.mono λb aa aA h=>⟨S.old b h.1,(ai.fresh h.1).1,λf=>h.2.2.1 (.inl f),h.2.2.2⟩⟩
 .rw[hc]at h
  have h:(match bQ r with|none=>none|some _=>some (Except.ok r,aq))=some out:=h;cases hv:bQ r with
  |none=>have h:=hv▸h;exact ah h
  |some dv=>
   rw[hv]at h;refine codeAny_mono (key _ _ hc) λr s' P=>?_
   refine Er (aI h).symm ?_;obtain⟨Hx,Z',G,_,T,_,_,_,⟨rv,v,q,rfl,R'⟩|⟨nm,ea,q,_⟩⟩:=P
   rotate_left
   .exact CF q
   obtain⟨I',S'⟩:=back G T;refine .ok v rfl (Er (iE q) ⟨_,ac,Z',rfl,I',S',?_⟩);cases rv with
   |fz d=>exact R'
   |own d=>
    obtain⟨b,R'⟩:=R';refine Er R'.1 ?_;exact⟨b,rfl,S.old b R'.2.1,(ai.fresh R'.2.1).1,λf=>R'.2.2.2.1 (.inl f),R'.2.2.2.2.1,R'.2.2.2.2.2⟩
   |pl p=>exact R'.elim
theorem vn {ds:List D} (h:fk c f ds r fr=some out):∃d,r = .own d:=by
 cases r with
 |own d=>exact⟨d,rfl⟩
 |fz d=>exact ah h
 |pl p=>exact ah h
theorem vP {pos:Pos} (ce:CE sc e z):∀ {es:List Expr} {xs:List Ex},F2 (λe x=>CE sc e x/\SE A c y (eval e env) x) es xs-> ∃e' r,starEach (es++[e]) env=(false,e')::r:=by
 intro es xs F;cases es with
 |nil=>exact⟨_,_,ce.star env []⟩
 |cons e0 es=>
  cases xs with
  |nil=>exact F.elim
  |cons x xs=>exact⟨_,_,F.1.1.star env (es++[e])⟩
theorem v4 {p:Pos} (R:Rn A c n) (en:aN A sc env y) (hf:tb.fn[f]? = some d/\f<tb.m0) (hg:sc.isG d.name)
  (F:F2 (λe x=>CE sc e x/\SE A c y (eval e env) x) es xs) (ce:CE sc e z) (H:SE A c y (eval e env) z) (np:∀x∈xs, ∀p,x≠ .pl p):SE A c y (eval (.Call (.Name d.name p) (es++[e]) [] pos) env) (.callw f xs z):=by
 intro own Z s fr out h I;rw[qe]at h;refine ag λG g=>?_
 obtain⟨a,o,hm,ho,⟨pm,code,gk,hd⟩,fa⟩:=sB.of R hf;refine g ?_;refine Call_Name rfl (eE R.gd en I hg hm ?_);refine Calls.callWith_function (o:=o) (fd:=docDef d.name d.params d.body d.scope pm code gk) ?_;have key:=Hi (pos:=pos) ce H F np own Z s fr out (λds r fr=>fk c f ds r fr) (λvs s'=>(s'.heap.get? a=some o/\o.data = .func (docDef d.name d.params d.body d.scope pm code gk))/\wpAny (model prog w) A (call (.ref a) ([]++vs)) (dB y (bf xs++aS z) own Z s out) (aV y (bf xs++aS z) own Z s out) s') h I λds r cT ae Z' s' vs v hk I' S' RA R'=>by
  obtain⟨dl,rfl⟩:=vn hk;obtain⟨al,R'⟩:=R';refine Er R'.1 ?_;exact⟨⟨I'.base a o ho,hd⟩,jm.wp (FH R en hf.1 fa I' S' RA R'.2.1 R'.2.2.1 R'.2.2.2.1 R'.2.2.2.2.1 R'.2.2.2.2.2 hk) (λv s' p=>p) λe s' p=>p⟩
 refine fM (vP (pos:=pos) ce F) λe' r hs=>?_
 rw[hs]at key ⊢;exact Z6 key
theorem zN {d:D} (h:fr[i]? = some (.own d)) (r:Rv):cj (fr.set i (.fz d)) r=cj fr r:=by
 cases r with
 |fz d=>rfl
 |own d=>rfl
 |pl p=>
  cases p with
  |var j=>
   simp only[cj,wg]
   by_cases q:i=j
   .subst q;exact Er (List.getElem?_set_self ((List.getElem?_eq_some_iff.mp h).1)) (Er h rfl)
   .exact Er (List.getElem?_set_ne q) rfl
set_option tactic.hygienic true in
theorem o5 {k:Expr} {r':Rv} (ce:CE sc k z) (hs:fc k=true) (h:ev c z fr=some (.ok r',aq)) (r:Rv):cj aq r=cj fr r:=by
 cases ce.sx hs with
 |lit _=>obtain⟨rfl,rfl⟩:=sU h;rfl
 |var _=>
  rw[jH]at h
  split at h
  .cases h;rfl
  .rename_i hd;obtain⟨rfl,rfl⟩:=sU h;exact zN hd r
  .exact ah h
 |pl _=>
  rw[mC]at h
  split at h
  .obtain⟨rfl,rfl⟩:=sU h;rfl
  .exact ah h
 |gl _=>
  rw[qd]at h
  split at h
  .cases h;rfl
  .exact ah h
theorem vU {k:Expr} (ce:CE sc k z) (hs:fc k=true) (h:ev c z fr=some (.error nm,aq)):False:=by
 cases ce.sx hs with
 |lit _=>cases h
 |var _=>
  rw[jH]at h
  split at h<;>cases h
 |pl _=>
  rw[mC]at h
  split at h<;>cases h
 |gl _=>
  rw[qd]at h
  split at h<;>cases h
theorem sq {a:Expr} (h:fc a=true):attributeBase a nm env (eval a env)=eval a env:=by
 cases a<;>first|rfl|cases h
def Ny (A:Around) (nm:Str) (b:Bi) :Prop:= ∀(d e:D) (r:Rv),ke b [d,e] = some r→ ∃T id,PlainAttrs T∧PySem.Slot T nm id∧typeOf (.builtin id) = pure (.type "method_descriptor")∧(∀(Z:Addr→Prop) (s:Shared) (v:Value),dE s.heap Z v d→s.TypeIs v T∧ ∀a,v = .ref a→ ∃ob,s.heap.get? a = some ob∧ob.dict = none)∧
   ∀(Z:Addr->Prop) (s:Shared) (v v':Value) (E:Value->Shared->Prop),dE s.heap Z v d->dE s.heap Z v' e->wpAny (model prog w) A (call (.builtin id) [v,v']) (Op Z s r) E s
theorem BL {b:Bi} {x:Ex} (h:ev c (.bi b [x,z]) fr=some out) (hb:b.loops=false):
  aT (ev c x fr) (λr fr=>aT (ev c z fr) λr' fr=>match cj fr r,cj fr r' with|some d,some e=>rg fr (ke b [d,e])|_,_=>none)=some out:=by
 rw[mD,hb,Bool.and_false,Y1 Z7,dj]at h
 rcases he:ev c x fr with _|⟨_|r,f⟩
 .rw[he]at h;exact h
 .rw[he]at h;exact h
 .rw[he]at h
  show aT (ev c z f) _=some out
  have h2:du (k:=⟨λrs fr=>match lI fr rs with|some ds=>rg fr (ke b ds)|none=>none⟩) (du (k:=⟨λrs fr=>some (.ok (r::rs),fr)⟩) (gr c [z] f))=some out:=h;rw[dj]at h2
  rcases hz:ev c z f with _|⟨_|r',f'⟩
  .rw[hz]at h2;exact h2
  .rw[hz]at h2;exact h2
  .rw[hz]at h2
   have h3:(match lI f' [r,r']with|some ds=>rg f' (ke b ds)|none=>none)=some out:=h2;simp only[iB,iA]at h3;show(match cj f' r,cj f' r' with|some d,some e=>rg f' (ke b [d,e])|_,_=>none)=some out
   cases h4:cj f' r with
   |none=>have h3:=h4▸h3;exact h3
   |some d=>
    have h3:=h4▸h3;cases h5:cj f' r' with
    |none=>have h3:=h5▸h3;exact h3
    |some e=>have h3:=h5▸h3;exact h3
set_option tactic.hygienic true in
theorem Hm {a k:Expr} {x:Ex} {b:Bi} (ha:fc a=true) (hk:fc k=true) (hl:(cW.endLine==pos.line)=true) (hb:b.loops=false)
  (F:F2 (λe x=>CE sc e x/\SE A c y (eval e env) x) [a,k] [x,z]) (op:Ny A nm b):
  SE A c y (eval (.Call (.Attribute a nm cW) [k] [] pos) env) (.bi b [x,z]):=by
 intro own Z s fr out h I;have h:=BL h hb;refine wpAny_Call_method1_late (sq ha) hl (by refine Er (F.2.2.1.1.star env []) ?_;rfl) ?_;refine cB (bv:=aS x) (bv':=aS x++(aS z++[])) h .refl bI (λo e=>F.1.2 own Z s fr o e I) λr aq ac aw s₁ v bn h ai bb S R1=>?_
 rcases be h with⟨e,f,hm,_⟩|⟨r',ax,hm,h2⟩
 .exact(vU F.2.2.1.1 hk hm).elim
 .split at h2
  .rename_i d e hd he
   obtain⟨q,hq,rfl⟩:=iF h2;refine fM (op d e q hq) λT id Q=>?_
   rw[o5 F.2.2.1.1 hk hm]at hd;refine⟨T,id,Q.1,Q.2.1,Q.2.2.1,(Q.2.2.2.1 aw s₁ v (R1.dat ai hd)).1,(Q.2.2.2.1 aw s₁ v (R1.dat ai hd)).2,callWith_builtin (first:=[v]) rfl (Z6 (Z5 ?_))⟩;refine cB (bv:=aS z) h S (λi h=>cw i (bI i h)) (λo e=>F.2.2.1.2 ac aw s₁ aq o e ai) λO0 jP av aR aG v' j0 h3 aF aY S' R'=>?_
   rw[hm]at j0;have u:=sU j0;obtain rfl:=u.1;obtain rfl:=u.2;have R2:=aY.rv ai (dy bn (λi hi hj=>F.2.1 i hi (bI i hj))) R1;exact Z4 (YW (Q.2.2.2.2 aR aG v v' _ (R2.dat aF (by rw[o5 F.2.2.1.1 hk hm];exact hd)) (R'.dat aF he)) (λv s' p=>p.post aF S') λaa aA x=>x)
  .exact ah h2
theorem uA:Ny A "count" .count:=by
 intro d e r h;cases d<;>first|exact ah h|skip
 cases e<;>first|exact ah h|skip
 refine aX (Z9 h) λbs q=>?_;refine Er q.2.symm ?_;have hb:=q.1
 refine ⟨"list","list.count",PySem.F.plainAttrs_list,PySem.F.slot_list_count,PySem.F.type_list_count,fun Z s v r=>?_,fun Z s v v' E r r'=>ww hb r r'⟩;obtain ⟨l,vs,n,rfl,hl,hn,R⟩:=r.list;exact ⟨⟨_,hl,rfl⟩,fun a e=>by cases e; exact ⟨_,hl,rfl⟩⟩
theorem vZ (R:Rn A c n):SE A c y (eval (.Dict [] [] pos) env) (.bi .dict0 []):=by
 intro own Z s fr out h I;have h:rg fr (some (.own (.dict [])))=some out:=by
  rw[mD,show(Bi.dict0).loops=false from rfl,Bool.and_false,Y1 Z7]at h;exact h
 obtain⟨q,hq,rfl⟩:=iF h;refine Er (aI hq).symm ?_;refine wpAny_Dict_empty ?_;refine iM R.gd.g λo aa aA Q=>?_
 have hs:=ZZ (I.base _ _ Q.1);refine Op.post I .refl ⟨_,s.toks,rfl,pK _,.own (A4 _) (.dict (kvs:=[]) ⟨?_,.new _⟩ (Zc _) .nil)⟩;rw[beq_eq_false_iff_ne];intro e;rw[e]at hs;exact absurd hs (by decide)
set_option tactic.hygienic true in
theorem zS {a b:Expr} {x z:Ex} {p p' pos gn:Pos} (R:Rn A c n) (en:aN A sc env y) (hg:sc.isG "dict") (IA:sc.isG "zip") (F:F2 (fun e x=>CE sc e x∧SE A c y (eval e env) x) [a,b] [x,z]) :
  SE A c y (eval (.Call (.Name "dict" p) [.Call (.Name "zip" p') [a,b] [] gn] [] pos) env) (.bi .dzip [x,z]):=by
 intro own Z s fr out h I;rw[mD]at h
 split at h
 .exact ah h
 rename_i hl;have fL:c.hd=false:=by
  cases q:c.hd with
  |false=>rfl
  |true=>exact absurd (by refine Er q ?_;rfl) hl
 refine Call_Name (args:=[.Call (.Name "zip" p') [a,b] [] gn]) rfl (di R.gd en I hg (by decide) (by decide) boot_dict ?_);refine Y8 (first:=[]) rfl (Z6 (Z5 ?_));refine Call_Name (args:=[a,b]) rfl (di R.gd en I IA (by decide) (by decide) boot_zip ?_);refine Y8 (first:=[]) (by refine Er (F.1.1.star env [b]) (Er (F.2.2.1.1.star env []) ?_); rfl) (kf F ?_);refine kB (bv:=bf [x,z]) h .refl (fun aa h=>h) (fun o e=>qV F own Z s fr o e I) fun rs aq ac aw s₁ vs bn h ai bb S Rs=>?_
 refine ag λG g=>?_
 refine fM (Ax (i6 bn)) λr1 r2 Q=>?_;subst Q
 refine fM (Ax Rs.length.symm) λv1 v2 u=>?_;subst u
 refine g ?_;cases h1:cj aq r1 with
 |none=>simp only[iB,iA,h1]at h;exact ah h
 |some d=>
  cases h2:cj aq r2 with
  |none=>simp only[iB,iA,h1,h2]at h;exact ah h
  |some e=>
   simp only[iB,iA,h1,h2]at h;obtain⟨q,hq,rfl⟩:=iF h;exact YW (Af (R.big ai) (R.hh fL) hq (Rs.1.dat ai (nu h1)) (Rs.2.1.dat ai (nu h2)) ai.zlv) (λv aG p=>Z4 (YW p (λv s' p=>p.post ai S) λaa aA x=>x)) λaa aA x=>x
end
end Mv
end
variable {as:List Nat} {sc:Mv.Sc} {J:Mv.Ins}
section
namespace Mv
open PySem PyProof.Rows
variable [Hp]
def dC (y:Lay) (own:Addr->Option Nat) (Z:Addr->Prop) (h₀ h:Heap) (b:Addr):Prop:=h₀.get? b=none/\ ¬y.wr own b/\ ¬y.F b/\ ¬Z b/\ ∃o,h.get? b=some o
section
variable {y:Lay} {bv bv':List Nat} {own ae sQ:Addr->Option Nat} {Z Z' mY:Addr->Prop} {s s' dS:Shared} {h h' h₀:Heap} {fr cT:Fm} {X:Addr->Prop}
theorem Step.loose (x:Step y bv own Z s ae Z' s') {b:Addr} (l:dC y own Z h₀ s.heap b):dC y ae Z' h₀ s'.heap b/\ ∀o,s.heap.get? b=some o->s'.heap.get? b=some o:=by
 refine ag λG g=>?_
 obtain⟨n0,nw,nf,nz,o,ho⟩:=l;refine g ?_;refine⟨⟨n0,λw=>?_,nf,λz=>?_,x.ext.live b o ho⟩,λo e=>x.ext.keep b o e nw nf⟩
 .rcases m7 x.on b w with w|w
  .exact nw w
  .rw[w]at ho;exact ah ho
 .rcases x.zn b z with z|z|z
  .exact nz z
  .exact nw (.inl z)
  .rw[z]at ho;exact ah ho
theorem Inv.other (I:Inv y own Z h fr) (hx:∀b,X b-> ¬y.wr own b/\ ¬y.F b/\ ¬Z b) (k:∀b o, ¬X b->h.get? b=some o->h'.get? b=some o):Inv y own Z h' fr where
 wf:=I.wf
 base:=λa o e=>k a o (λq=>(hx a q).2.2 (I.zb a o e)) (I.base a o e)
 zb:=I.zb
 zo:=I.zo
 zl:=I.zl
 ol:=I.ol
 zL:=I.zL
 oL:=I.oL
 zF:=I.zF
 oF:=I.oF
 zlv:=λa z=>let ⟨o,e⟩:=I.zlv a z;⟨o,k a o (λq=>(hx a q).2.2 z) e⟩
 olv:=λa z=>let ⟨o,e⟩:=I.olv a z;⟨o,k a o (λq=>(hx a q).1 (.inl z)) e⟩
 flv:=λa z=>let ⟨o,e,nr⟩:=I.flv a z;⟨o,k a o (λq=>(hx a q).2.1 z) e,nr⟩
 ok:=λi l e=>(I.ok i l e).keeps λo=>k _ o λq=>(hx _ q).1 (.inr (.inr ⟨i,l,e,rfl⟩))
 nsL:=let ⟨m,hn⟩:=I.nsL;⟨m,hn.at' λo=>k _ o λq=>(hx _ q).1 (.inr (.inl rfl))⟩
 sf:=λp e=>(I.sf p e).mono (λa o z=>k a o λq=>(hx a q).2.2 z) (λaa z=>z) λl v hl r=>r.keeps λo=>k _ o λq=>(hx _ q).1 (.inr (.inr ⟨_,l,hl,rfl⟩))
 at':=λi sl e n=>let ⟨l,v,hl,r,q⟩:=I.at' i sl e n;⟨l,v,hl,r.keeps λo=>k _ o λq=>(hx _ q).1 (.inr (.inr ⟨i,l,hl,rfl⟩)),
  q.mono (λa o z=>k a o λq=>(hx a q).2.2 z) (λaa z=>z) (λaa z=>z) λa o z=>k a o λq=>(hx a q).1 (.inl (by refine Er z ?_;exact λn=>by cases n))⟩
theorem Step.other (x:Step y bv own Z s ae Z' s') {tk:Nat} (hx:∀b,X b->s.heap.get? b=none/\ ¬y.wr ae b) (k:∀b o, ¬X b->s'.heap.get? b=some o->h'.get? b=some o):Step y bv own Z s ae Z' {s' with heap:=h',toks:=tk}:=by
 have nx:∀a o,s.heap.get? a=some o-> ¬X a:=λa o e q=>by rw[(hx a q).1]at e;exact ah e
 refine⟨?_,⟨λa o e nw nf=>k a o (nx a o e) (x.ext.keep a o e nw nf),λa o e=>?_,λa o f e=>?_⟩,x.zm,x.zn,x.on,λi l v n hl r=>(x.bind i l v n hl r).keeps λo=>k _ o λq=>(hx _ q).2 (.inr (.inr ⟨i,l,hl,rfl⟩))⟩
 .refine fM x.sh λh JY Q=>?_;subst Q;exact⟨_,_,rfl⟩
 .obtain⟨o',e'⟩:=x.ext.live a o e;exact⟨o',k a o' (nx a o e) e'⟩
 .exact aX (x.ext.fram a o f e) λsl e'=>(⟨sl,k a _ (nx a o e) e'⟩)
theorem dC.other {b:Addr} (l:dC y own Z h₀ h b) (k:∃o,h'.get? b=some o):dC y own Z h₀ h' b:=⟨l.1,l.2.1,l.2.2.1,l.2.2.2.1,k⟩
end
theorem km {k:Nat} (h:k<=n):n+1-(k+1)<n+1-k:=Nat.sub_lt_sub_left (Nat.lt_succ_of_le h) (lt_succ_self k)
noncomputable def Cx:List String:=["enumerate","zip","dict_itemiterator","dict_reverseitemiterator","odict_iterator","itertools.zip_longest","itertools.pairwise"]
theorem NF {It:Addr} {o:Obj} {T:String} {Q:Unit->Shared->Prop} (he:s.heap.get? It=some o) (hc:o.cls = .type T) (hT:Cx.contains T=false) (h:Q () s):wpAny (model prog w) A (letOwnedTupleGo g (.ref It) v) Q E s:=by
 have key:wpAny (model prog w) A (do
   let (.ref r,.ref a):=(Value.ref It,v)|return
   let o <- load r
   match o.cls,o.data with
   |.type n,.fields vs=>
    if ["enumerate","zip","dict_itemiterator","dict_reverseitemiterator","odict_iterator","itertools.zip_longest","itertools.pairwise"].contains n && vs[0]? == some (rawInt a) then
     rule "for.unpacks-the-owned-tuple"
     updateField r 0 .none
   |_,_=>pure ()) Q E s:=by
  cases v with
  |ref a=>
   refine YY (wpAny_load he ?_);obtain⟨c,d,dt,sl⟩:=o;cases hc;cases dt with
   |fields vs=>
    dsimp only;exact Er (Y1 (by refine Er (show (["enumerate","zip","dict_itemiterator","dict_reverseitemiterator","odict_iterator","itertools.zip_longest","itertools.pairwise"].contains T) = false from hT) ?_; rw [Bool.false_and]; exact Z7)) (YU h)
   |_=>exact YU h
  |_=>exact YU h
 cases g with
 |Tuple es k p=>exact key
 |List es p=>exact key
 |_=>exact YU h
structure Wk (A:Around) (I:Addr) (items:List D) (fp wr:List Addr) (P:Nat->Value->Prop) (St:Nat->Heap->Prop):Prop extends Walks prog w A I fp wr items.length P St where
 lv:∀i h,St i h-> ∀b∈fp, ∃o,h.get? b=some o
 cls:∀i h,St i h-> ∃o T,h.get? I=some o/\o.cls = .type T/\Cx.contains T=false
structure hW (y:Lay) (items:List D) (fp wr:List Addr) (P:Nat->Value->Prop) (St:Nat->Heap->Prop) (h₀:Heap) (own:Addr->Option Nat) (Z:Addr->Prop) (h:Heap) (k:Nat):Prop where
 st:St k h
 fp:∀b∈fp,Z b\/dC y own Z h₀ h b
 wr:∀b∈wr,dC y own Z h₀ h b
 it:∀i v,i<items.length->P i v-> ∃d,items[i]? = some d/\b5 h Z v d
section
variable {A:Around} {y:Lay} {bv bv':List Nat} {own ae sQ:Addr->Option Nat} {Z Z' mY:Addr->Prop} {s s' dS:Shared} {h h' h₀:Heap} {fr cT:Fm} {I:Addr} {items:List D} {fp wr:List Addr} {P:Nat->Value->Prop} {St:Nat->Heap->Prop} {k:Nat}
theorem hW.step (W:Wk A I items fp wr P St) (x:hW y items fp wr P St h₀ own Z s.heap k) (i:Inv y own Z s.heap fr) (S:Step y bv own Z s ae Z' s'):hW y items fp wr P St h₀ ae Z' s'.heap k where
 st:=W.frame k _ _ x.st λb hb o e=>(x.fp b hb).elim (λz=>i.keepZ S.ext b o z e) λl=>(S.loose l).2 o e
 fp:=λb hb=>(x.fp b hb).imp (S.zm b) λl=>(S.loose l).1
 wr:=λb hb=>(S.loose (x.wr b hb)).1
 it:=λj v hj p=>let ⟨d,e,r⟩:=x.it j v hj p;⟨d,e,r.mono (i.keepZ S.ext) S.zm⟩
theorem hW.other (W:Wk A I items fp wr P St) (x:hW y items fp wr P St h₀ own Z h k) {X:Addr->Prop} (hx:∀b,X b-> ¬Z b/\b∉fp) (kp:∀b o, ¬X b->h.get? b=some o->h'.get? b=some o):hW y items fp wr P St h₀ own Z h' k where
 st:=W.frame k _ _ x.st λb hb o e=>kp b o (λq=>(hx b q).2 hb) e
 fp:=λb hb=>(x.fp b hb).imp id λl=>l.other (let ⟨o,e⟩:=l.2.2.2.2;⟨o,kp b o (λq=>(hx b q).2 hb) e⟩)
 wr:=λb hb=>(x.wr b hb).other (let ⟨o,e⟩:=(x.wr b hb).2.2.2.2;⟨o,kp b o (λq=>(hx b q).2 (W.sub b hb)) e⟩)
 it:=λj v hj p=>let ⟨d,e,r⟩:=x.it j v hj p;⟨d,e,r.mono (λa o z=>kp a o λq=>(hx a q).1 z) λaa z=>z⟩
theorem l6 {d:D} {Q:Option Value->Shared->Prop} {Qv:Value->Shared->Prop} (W:Wk A I items fp wr P St) (x:hW y items fp wr P St s.heap ae Z' s'.heap k) (i:Inv y ae Z' s'.heap fr) (S:Step y bv own Z s ae Z' s') (hd:items[k]? = some d)
  (hQ:∀v s₁,wpAny (model prog w) A (letOwnedTupleGo g (.ref I) v) (λaa aG=>Qv v aG) E s₁->Q (some v) s₁)
  (h:∀v dS mY,(∀a,Z' a->mY a)->b5 dS.heap mY v d->hW y items fp wr P St s.heap ae mY dS.heap (k+1)->Inv y ae mY dS.heap fr->Step y bv own Z s ae mY dS->(∀b,dC y ae Z' s.heap s'.heap b->b∉wr->dC y ae mY s.heap dS.heap b)->(∀b o,b∉wr->s'.heap.get? b=some o->dS.heap.get? b=some o)->Qv v dS):
  wpAny (model prog w) A (pyNext (.ref I)) Q E s':=by
 have hk:=(List.getElem?_eq_some_iff.mp hd).1;refine W.item k s' Q E hk x.st λv h' tk hm GE kp=>?_
 .have hX:∀b,b∈wr-> ¬y.wr ae b/\ ¬y.F b/\ ¬Z' b:=λb hb=>⟨(x.wr b hb).2.1,(x.wr b hb).2.2.1,(x.wr b hb).2.2.2.1⟩
  have kz:∀a o,Z' a->s'.heap.get? a=some o->h'.get? a=some o:=λa o z e=>kp a o (λq=>(hX a q).2.2 z) e
  have S1:Step y bv own Z s ae Z' {s' with heap:=h',toks:=tk}:=S.other (X:=λb=>b∈wr) (λb hb=>⟨(x.wr b hb).1,(hX b hb).1⟩) kp;refine ag λG g1=>?_
  obtain⟨d',e,r⟩:=x.it k v hk hm;rw[hd]at e;obtain rfl:=aI e;have N4:∀j m,j<items.length->P j m-> ∃d,items[j]? = some d/\b5 h' Z' m d:=λj m hj p=>let ⟨d,e,r⟩:=x.it j m hj p;⟨d,e,r.mono kz λaa z=>z⟩
  refine fM (W.cls _ _ GE) λo T u=>?_;have e:=u.1;have c:=u.2.1;have n:=u.2.2
  exact g1 (hQ v _ (NF (s:= {s' with heap:=h',toks:=tk}) e c n (h v {s' with heap:=h',toks:=tk} Z' (λaa z=>z) (r.mono kz λaa z=>z) ⟨GE,λb hb=>(x.fp b hb).imp id λl=>l.other ((W.lv _ _ GE) b hb),λb hb=>(x.wr b hb).other ((W.lv _ _ GE) b (W.sub b hb)),N4⟩ (i.other hX kp) S1 (λb l n=>l.other (let ⟨o,e⟩:=l.2.2.2.2;⟨o,kp b o n e⟩)) kp)))
theorem l7 {Q:Option Value->Shared->Prop} {E:Value->Shared->Prop} (W:Wk A I items fp wr P St) (x:hW y items fp wr P St s.heap ae Z' s'.heap items.length) (i:Inv y ae Z' s'.heap fr) (S:Step y bv own Z s ae Z' s')
  (h:∀dS,Inv y ae Z' dS.heap fr->Step y bv own Z s ae Z' dS->(∀b o,b∉wr->s'.heap.get? b=some o->dS.heap.get? b=some o)->(∃h' tk,dS={s' with heap:=h',toks:=tk})->Q none dS):
  wpAny (model prog w) A (pyNext (.ref I)) Q E s':=by
 refine W.done s' Q E x.st λh' tk kp=>?_
 have hX:∀b,b∈wr-> ¬y.wr ae b/\ ¬y.F b/\ ¬Z' b:=λb hb=>⟨(x.wr b hb).2.1,(x.wr b hb).2.2.1,(x.wr b hb).2.2.2.1⟩
 exact h {s' with heap:=h',toks:=tk} (i.other hX kp) (S.other (X:=λb=>b∈wr) (λb hb=>⟨(x.wr b hb).1,(hX b hb).1⟩) kp) kp ⟨_,_,rfl⟩
end
inductive yZ (A:Around) (y:Lay) (it:iN) (bv:List Nat) (own:Addr->Option Nat) (Z:Addr->Prop) (s:Shared) (out:Except Str (List Rv)×Fm) (GD:Value) (s':Shared):Prop
 |mk (rs:List Rv) (ds items:List D) (ae:Addr->Option Nat) (Z':Addr->Prop) (I:Addr) (fp wr:List Addr) (P:Nat->Value->Prop) (St:Nat->Heap->Prop):out.1 = .ok rs->b9 rs=some ds->bG it ds=some items->items.length<=Sz->GD = .ref I->Inv y ae Z' s'.heap out.2->Step y bv own Z s ae Z' s'->Wk A I items fp wr P St->hW y items fp wr P St s.heap ae Z' s'.heap 0->yZ A y it bv own Z s out GD s'
def SI (A:Around) (c:cR) (y:Lay) (m:Sem Value) (it:iN) (b8:List Ex):Prop:= ∀(own:Addr->Option Nat) (Z:Addr->Prop) (s:Shared) (fr:Fm) (out:Except Str (List Rv)×Fm),gr c b8 fr=some out->
 (∀rs,out.1 = .ok rs-> ∃ds items,b9 rs=some ds/\bG it ds=some items)->c.hd=false->Inv y own Z s.heap fr->
 wpAny (model prog w) A m (λx s₁=>wpAny (model prog w) A (pyIter x) (yZ A y it (bf b8) own Z s out) (aV y (bf b8) own Z s out) s₁) (aV y (bf b8) own Z s out) s
section
variable {A:Around} {c:cR} {n:Nat} {env:Env} {sc:Sc} {y:Lay}
 {bv bv':List Nat} {own ac:Addr->Option Nat} {Z aw:Addr->Prop} {s s₁:Shared} {fr aq:Fm}
theorem n8 {x:Ex} {out:Except Str (List Rv)×Fm} (h:gr c [x] fr=some out):aT (ev c x fr) (λr fr=>some (.ok [r],fr))=some out:=by
 rw[dj]at h
 rcases he:ev c x fr with _|⟨_|r,f⟩
 .rw[he]at h;exact h
 .rw[he]at h;exact h
 .rw[he]at h;exact h
theorem m8 {o:Obj} {items:List D} {fp:List Addr} {P:Nat->Value->Prop} {St:Nat->Heap->Prop} (I:Inv y ac aw s₁.heap fr) (S:Step y bv own Z s ac aw s₁) (he:(s₁.heap.push o).get? s₁.heap.objs.size=some o) (GE:St 0 (s₁.heap.push o))
  (On:∀b∈fp,b=s₁.heap.objs.size\/aw b) (de:∀i v,i<items.length->P i v-> ∃d,items[i]? = some d/\b5 s₁.heap aw v d):
  hW y items fp [s₁.heap.objs.size] P St s.heap ac aw (s₁.heap.push o) 0:=by
 have e:=A4 s₁.heap;have lo:dC y ac aw s.heap (s₁.heap.push o) s₁.heap.objs.size:=⟨S.old _ e,(I.fresh e).1,(I.fresh e).2.1,(I.fresh e).2.2,o,he⟩
 refine⟨GE,λb hb=>(On b hb).elim (λq=>.inr (q▸lo)) .inl,λb hb=>?_,λi m hi p=>?_⟩
 .cases hb with
  |head=>exact lo
  |tail _ h=>cases h
 .obtain⟨d,Q⟩:=de i m hi p
  exact⟨d,Q.1,Q.2.mono (λa o aa=>pK _ a o) λaa z=>z⟩
theorem DI {x:Ex} (R:Rn A c n) (H:SE A c y (eval e env) x):SI A c y (eval e env) .seq [x]:=by
 intro own Z s fr out h hv fL I;have h:=n8 h;refine cB (bv:=aS x) (bv':=aS x++[]) h .refl bI (λo e=>H own Z s fr o e I) λr aq ac aw s₁ v bn h ai bb S R1=>?_
 obtain rfl:=aI h;obtain⟨ds,items,gA,de⟩:=hv _ rfl;simp only[iz,jp]at gA;cases hr:bQ r with
 |none=>rw[hr]at gA;exact ah gA
 |some d=>
  rw[hr]at gA;obtain rfl:=aI gA;obtain⟨aR,aF,aY,fy⟩:=R1.freeze ai S hr;have y6:∀(o:Obj) (fp:List Addr) (P:Nat->Value->Prop) (St:Nat->Heap->Prop),items.length<=Sz->Wk A s₁.heap.objs.size items fp [s₁.heap.objs.size] P St->hW y items fp [s₁.heap.objs.size] P St s.heap ac aR (s₁.heap.push o) 0->
    yZ A y .seq (aS x++[]) own Z s (.ok [r],aq) (.ref s₁.heap.objs.size) {s₁ with heap:=s₁.heap.push o}:=λo fp P St hl W WA=>
   ⟨[r],[d],items,ac,aR,_,fp,_,P,St,rfl,by simp[iz,jp,hr],de,hl,rfl,aF.grow (pK o),aY.trans (.grow (tk:=s₁.toks) (pK o)),W,WA⟩
  have lt:∀a o,s₁.heap.get? a=some o->a≠s₁.heap.objs.size:=λa o e q=>by rw[q,A4]at e;exact ah e
  cases d with
  |list xs=>
   cases de;cases fy with
   |@list a vs _ m za hl hn Rs=>
   refine wpAny_pyIter_list hl.isList (y6 _ _ _ _ (by rw[<- Rs.length];exact hn) ⟨?_,λi h st b hb=>?_,λi h st=>let ⟨o,e,hc,_⟩:=st.1;⟨o,_,e,hc,by decide⟩⟩ (m8 (fp:=[s₁.heap.objs.size,a]) (P:=λi v=>vs.toArray[i]? = some v) (St:=λi h=>h.IsListIter s₁.heap.objs.size a i/\h.IsList a vs.toArray) aF aY (Z1 _ rfl) ⟨⟨_,Z1 _ rfl,rfl,rfl⟩,(IsL.push hl _).isList⟩ (λb hb=>?_) λi v aa p=>?_))
   .have:=Walks.list (prog:=prog) (w:=w) (A:=A) (R.hh fL) s₁.heap.objs.size a (lt _ _ hl) vs.toArray
    rw[show vs.toArray.size=items.length from(Zo ..).trans Rs.length]at this;exact this
   .rcases mem_cons.mp hb with rfl|hb
    .obtain⟨o,J⟩:=st.1;exact⟨o,J.1⟩
    .rw[Zr]at hb;subst hb;obtain⟨o,j⟩:=st.2;exact⟨o,j.1⟩
   .rcases mem_cons.mp hb with rfl|hb
    .exact .inl rfl
    .rw[Zr]at hb;subst hb;exact .inr za
   .exact Rs.getV (by simpa using p)
  |tuple xs=>
   cases de;cases fy with
   |@tuple a vs _ m za hl hn Rs=>
   refine wpAny_pyIter_tuple (⟨_,hl,rfl,_,rfl⟩) (y6 _ _ _ _ (by rw[<- Rs.length];exact hn) ⟨?_,λi h st b hb=>?_,λi h st=>let ⟨o,e,hc,_⟩:=st.1;⟨o,_,e,hc,by decide⟩⟩ (m8 (fp:=[s₁.heap.objs.size,a]) (P:=λi v=>vs.toArray[i]? = some v) (St:=λi h=>h.IsTupleIter s₁.heap.objs.size a i/\h.IsTuple a vs.toArray) aF aY (Z1 _ rfl) ⟨⟨_,Z1 _ rfl,rfl,rfl⟩,⟨_,pK _ _ _ hl,rfl,_,rfl⟩⟩ (λb hb=>?_) λi v aa p=>?_))
   .have:=Walks.tuple (prog:=prog) (w:=w) (A:=A) (R.hh fL) s₁.heap.objs.size a (lt _ _ hl) vs.toArray
    rw[show vs.toArray.size=items.length from(Zo ..).trans Rs.length]at this;exact this
   .rcases mem_cons.mp hb with rfl|hb
    .obtain⟨o,Q⟩:=st.1;exact⟨o,Q.1⟩
    .rw[Zr]at hb;subst hb;obtain⟨o,U⟩:=st.2;exact⟨o,U.1⟩
   .rcases mem_cons.mp hb with rfl|hb
    .exact .inl rfl
    .rw[Zr]at hb;subst hb;exact .inr za
   .exact Rs.getV (by simpa using p)
  |str x=>exact ah de
  |none=>exact ah de
  |bool b=>exact ah de
  |int i=>exact ah de
  |dict kvs=>exact ah de
set_option tactic.hygienic true in
theorem vW {e:Expr} {x:Ex} {p pos:Pos} (R:Rn A c n) (en:aN A sc env y) (hg:sc.isG "range") (hc:CE sc e x) (H:SE A c y (eval e env) x) :SI A c y (eval (.Call (.Name "range" p) [e] [] pos) env) .range [x]:=by
 intro own Z s fr out h hv fL I;have h:=n8 h;refine Call_Name (args:=[e]) rfl (di R.gd en I hg (by decide) (by decide) boot_range ?_);refine Y8 (first:=[]) (by refine Er (hc.star env []) ?_;rfl) ?_;refine Er (hc.star env []) ?_;refine Z6 (Z5 ?_);refine cB (bv:=aS x) (bv':=aS x++[]) h .refl bI (λo e=>H own Z s fr o e I) λr aq ac aw s₁ v bn h ai bb S R1=>?_
 obtain rfl:=aI h;obtain⟨ds,items,gA,de⟩:=hv _ rfl;simp only[iz,jp]at gA;cases hr:bQ r with
 |none=>rw[hr]at gA;exact ah gA
 |some d=>
  rw[hr]at gA;obtain rfl:=aI gA;cases d with
  |int i=>
   obtain⟨t,rfl⟩:=(R1.dat ai (cG hr)).int;have Lz:=de;have de:(if -1000000000<=i/\i<=(Sz:Int) then some (fO 0 i.toNat) else none)=some _:=de
   split at de
   .rename_i hi
    obtain rfl:=aI de;refine Z4 (call_range_1 ?_);have MZ:=hi.1;refine wpAny_pyIter_range (IsRange.new ..) (small_one (Ln [] (.i (.g (.c 4611686018427387904)) (.c 0)) [] rfl) (Ln [] (.i (.p 1 (.c 0)) (.c 4611686018427387904)) [] rfl) (Li [i] (.i (.g (.c 4611686018427387904)) .x) [Gi (.g (.c 1000000000)) .x] rfl hi.1) (Li [i] (.i (.p 1 .x) (.c 4611686018427387904)) [Gi .x (.n (.c 16777216))] rfl hi.2)) ?_
    let aG:Shared:= {s₁ with heap:=s₁.heap.push {cls:=.type "range",data:=.fields #[.int 0 s₁.toks,.int i t,.int 1 (s₁.toks + 1)]},toks:=s₁.toks + 1 + 1}
    have e0:Builtin.Range.rangeSize 0 i 1=(i.toNat:Int):=by rw[rangeSize_nat];simp
    have da:(fO 0 i.toNat).length=i.toNat:=by simp[fO]
    refine⟨[r],[.int i],fO 0 i.toNat,ac,aw,aG.heap.objs.size,_,_,_,_,rfl,by simp[iz,jp,hr],Lz,by refine Er da ?_;exact Int.toNat_le.mpr hi.2,rfl,(ai.grow (pK _)).grow (pK _),(S.trans (.grow (pK _))).trans (.grow (tk:=aG.toks) (pK _)),⟨(by refine Er da ?_;exact(Walks.range (prog:=prog) (w:=w) (A:=A) (R.hh fL) aG.heap.objs.size 0 1 i.toNat)),λj h st b hb=>?_,λi h st=>⟨_,_,st,rfl,by decide⟩⟩,m8 (s₁:=aG) (ai.grow (pK _)) (S.trans (.grow (pK _))) (Z1 _ rfl) ?_ (λb hb=>.inl (by rwa [Zr]at hb)) λj v hj p=>?_⟩
    .rw[Zr]at hb;subst hb;exact⟨_,st⟩
    .exact Er (show(0:Int)+((0:Nat):Int)*1=0 from by simp) (Er (show((i.toNat:Int)-((0:Nat):Int))=Builtin.Range.rangeSize 0 i 1 from by refine Er e0 ?_;simp) (Z1 _ rfl))
    .obtain⟨u,rfl⟩:=p
     rw[da]at hj;refine⟨.int (0+(j:Int)),by simp[fO,hj],?_⟩;rw[Int.mul_one];exact .int _ u
   .exact ah de
  |none=>exact ah de
  |bool b=>exact ah de
  |str b=>exact ah de
  |list b=>exact ah de
  |tuple b=>exact ah de
  |dict b=>exact ah de
theorem DJ {e:Expr} {x:Ex} {p pos:Pos} (R:Rn A c n) (en:aN A sc env y) (hg:sc.isG "reversed") (hc:CE sc e x) (H:SE A c y (eval e env) x) :SI A c y (eval (.Call (.Name "reversed" p) [e] [] pos) env) .rev [x]:=by
 intro own Z s fr out h hv fL I;have h:=n8 h;refine Call_Name (args:=[e]) rfl (di R.gd en I hg (by decide) (by decide) boot_reversed ?_);refine Y8 (first:=[]) (by refine Er (hc.star env []) ?_;rfl) ?_;refine Er (hc.star env []) ?_;refine Z6 (Z5 ?_);refine cB (bv:=aS x) (bv':=aS x++[]) h .refl bI (λo e=>H own Z s fr o e I) λr aq ac aw s₁ v bn h ai bb S R1=>?_
 obtain rfl:=aI h;obtain⟨ds,items,gA,de⟩:=hv _ rfl;simp only[iz,jp]at gA;cases hr:bQ r with
 |none=>rw[hr]at gA;exact ah gA
 |some d=>
  rw[hr]at gA;obtain rfl:=aI gA;obtain⟨aR,aF,aY,fy⟩:=R1.freeze ai S hr;cases d with
  |tuple xs=>
   obtain rfl:=aI de;cases fy with
   |@tuple a vs _ m za hl hn Rs=>
   have hsz:=(Zo ..).trans Rs.length;have da:xs.reverse.length=vs.toArray.size:=by exact Er ZD (Er hsz rfl)
   have hz:(vs.toArray.size:Int)<2 ^ 63:=by
    have:vs.toArray.size<=16777216:=by exact Er Zo hn
    exact(Ln [vs.toArray.size] (.i (.p 1 (.n .x)) (.c 9223372036854775808)) [Gl .x (.c 16777216)] rfl this)
   refine Z4 (BA (items:=vs.toArray) ⟨_,hl,rfl,_,rfl⟩ hz λtk=>?_)
   let o:Obj:= {cls:=.type "reversed",data:=.fields #[.ref a,rawInt ((vs.toArray.size:Int) - 1)]}
   refine Rv.iter (Z1 _ rfl) ?_;refine⟨[r],[.tuple xs],xs.reverse,ac,aR,s₁.heap.objs.size,[s₁.heap.objs.size,a],_,λi v=>vs.toArray[vs.toArray.size-1-i]? = some v,λi h=>i<=vs.toArray.size/\oH h s₁.heap.objs.size a ((vs.toArray.size:Int)-1-(i:Int))/\IsTup h a vs.toArray,rfl,by simp[iz,jp,hr],de,by refine Er da (Er Zo ?_);exact hn,rfl,aF.grow (pK o),aY.trans (.grow (tk:=tk) (pK o)),⟨?_,λi h st b hb=>?_,λi h st=>⟨_,_,st.2.1,rfl,by decide⟩⟩,m8 (s₁:=s₁) aF aY (Z1 _ rfl) ⟨Zc _,?_,⟨_,pK _ _ _ hl,rfl,_,rfl⟩⟩ (λb hb=>?_) λi v hi p=>?_⟩
   .exact Er da (Walks.rv (prog:=prog) (w:=w) (A:=A) (R.hh fL) s₁.heap.objs.size a (ne_of_lt (ZZ hl)) vs.toArray hz)
   .rcases mem_cons.mp hb with rfl|hb
    .exact⟨_,st.2.1⟩
    .rw[Zr]at hb;subst hb;obtain⟨o,j⟩:=st.2.2;exact⟨o,j.1⟩
   .exact Er (show(vs.toArray.size:Int)-1-((0:Nat):Int)=(vs.toArray.size:Int)-1 from Int.sub_zero _) (Z1 _ rfl)
   .rcases mem_cons.mp hb with rfl|hb
    .exact .inl rfl
    .rw[Zr]at hb;subst hb;exact .inr za
   .rw[ZD]at hi
    refine Er (List.getElem?_reverse hi) ?_;rw[hsz]at p;exact Rs.getV (by simpa using p)
  |none=>exact ah de
  |bool b=>exact ah de
  |str b=>exact ah de
  |list b=>exact ah de
  |int b=>exact ah de
  |dict b=>exact ah de
end
end Mv
end
section
set_option backward.match.sparseCases false
namespace Mv
open PySem PyProof.Rows
variable [Hp]
noncomputable def Ew (env:Env) (po:Pos):List (Option Expr)->List Expr->List (Sem Value×Sem Value)
 |some k::ks,v::vs=>(eval k env,do let x <- eval v env;standAt po;pure x)::Ew env po ks vs
 |_,_=>[]
theorem gT {env:Env} {po:Pos}:∀ {lB:List (Option Expr)} {ks:List Str} (dI:List Expr),KS lB ks->((evalEachOpt lB env).zip ((evalEach dI env).map λv=>do let x <- v;standAt po;pure x)=(Ew env po lB dI).map λp=>(some p.1,p.2))/\((Ew env po lB dI).length=min ks.length dI.length)
 |_,_,dI,.nil=>⟨rfl,by cases dI<;>exact(Nat.zero_min _).symm⟩
 |_,_,[],.cons t=>⟨rfl,(Nat.min_zero _).symm⟩
 |_,_,v::dI,.cons t=>by
  refine⟨Y7 (_ :: ·) (gT (env:=env) (po:=po) dI t).1,?_⟩;show(Ew env po _ dI).length+1=_
  rw[(gT (env:=env) (po:=po) dI t).2,ZH,ZH];omega
theorem vc:∀ {ks:List Str} {ds:List D} {x:Str} {d:D},mJ ks ds x=some d-> ∃j:Nat,ks[j]? = some x/\ds[j]? = some d:=by
 intro ks ds x d h
 induction ks generalizing ds x d with
 |nil=>exact ah h
 |cons k ks ih=>
  cases ds with
  |nil=>exact ah h
  |cons d' ds=>
    have h:(if k=x then some d' else mJ ks ds x)=some d:=h
    by_cases q:k=x
    .rw[Y0 q]at h;exact⟨0,by refine Er q ?_;rfl,h⟩
    .rw[Y1 q]at h;exact aX (ih h) λj Q=>(⟨j+1,Q.1,Q.2⟩)
section
variable {A:Around} {c:cR} {n:Nat} {env:Env} {sc:Sc} {y:Lay}
 {bv bv':List Nat} {own ac:Addr->Option Nat} {Z aw:Addr->Prop} {s s₁:Shared} {fr aq:Fm}
def JP (prog:Program) (w:World) (y:Lay) (bv:List Nat) (own:Addr->Option Nat) (Z:Addr->Prop) (s:Shared) (ks:List Str) (out:Except Str (List Rv)×Fm) (D8:List (Value×Value)) (s':Shared):Prop:=
 ∃vs,oG y bv own Z s out vs s'/\Carries (strKind prog w) D8 (ks.zip vs)
theorem j6 {po:Pos}:∀ {lB:List (Option Expr)} {ks:List Str},KS lB ks-> ∀ {es:List Expr} {xs:List Ex},F2 (λe x=>CE sc e x/\SE A c y (eval e env) x) es xs->ks.length=xs.length-> ∀(own:Addr->Option Nat) (Z:Addr->Prop) (s:Shared) (fr:Fm) (out:Except Str (List Rv)×Fm),gr c xs fr=some out->Inv y own Z s.heap fr->
  wpAny (model prog w) A (evalPairs (Ew env po lB es)) (JP prog w y (bf xs) own Z s ks out) (aV y (bf xs) own Z s out) s
 |_,_,.nil,[],[],_,_=>by
  intro own Z s fr out h I;exact Er (aI h).symm (evalPairs_nil ⟨[],⟨[],own,Z,rfl,I,.refl,trivial⟩,trivial⟩)
 |_,_,.cons (k:=k) (kk:=kk) (p:=kp) t,e::es,x::xs,F,hl=>by
  intro own Z s fr out h I;rw[dj]at h;refine evalPairs_cons (wpAny_Constant_str (k:=kk) (pos:=kp) ?_);refine YY (cB (s₁:= {s with toks:=s.toks+1}) (bv:=aS x) (bv':=aS x++bf xs) h (aQ .refl) bI (λo e=>F.1.2 own Z {s with toks:=s.toks+1} fr o e I) λr aq ac aw s₁ v bn h ai bb S R=>YY (wpAny_standAt (YU ?_)));refine ag λG1 g1=>?_
  refine aX (R.frz ai (bb.sub (bv':=aS x++bf xs) bI)) λaR Q=>?_;have aF:=Q.1;have aY:=Q.2.1;have fy:=Q.2.2.1
  have ir:=(aQ (tk:=s.toks+1) .refl).trans aY;have ap:∀i∈fQ (frz r),i∉bf xs:=by rw[kJ];exact dy bn F.2.1
  rcases be h with⟨e',f,hm,rfl⟩|⟨rs,f,hm,h⟩
  .refine g1 ?_
   refine YW (j6 (po:=po) t F.2.2 (by simpa using hl) ac aR s₁ aq _ hm aF) (λvs s' p=>?_) λe s' p=>p.up cw ir
   obtain⟨_,⟨_,_,_,q,_⟩,_⟩:=p;exact iX q
  .refine g1 ?_
   refine YW (j6 (po:=po) t F.2.2 (by simpa using hl) ac aR s₁ aq _ hm aF) (λvs s' p=>?_) λe s' p=>p.elim
   refine ag λG g=>?_
   obtain⟨zi,⟨JZ,ae,Z',q,I',S',R'⟩,C⟩:=p;obtain rfl:=iE q;refine g ?_;exact Er (aI h).symm (⟨v::zi,⟨r::rs,ae,Z',rfl,I',ir.trans (S'.sub cw),S'.rv aF ap fy,R'.since ir.old⟩,strKind_is prog w k _,rfl,C⟩)
 |_,_,.nil,_::_,_::_,_,hl=>by simp at hl
 |_,_,.cons _,[],[],_,hl=>by simp at hl
 |_,_,_,[],_::_,F,_=>F.elim
 |_,_,_,_::_,[],F,_=>F.elim
theorem Gc {P:Expr->Ex->Prop}:∀ {es:List Expr} {xs:List Ex},F2 P es xs->es.length=xs.length:=by
 intro x1 x2 F
 induction x1 generalizing x2 with
 |nil=>
  cases x2 with
  |nil=>exact rfl
  |cons x5 x6=>exact F.elim
 |cons x3 x4 ih=>
  cases x2 with
  |nil=>exact F.elim
  |cons x7 x8=>exact Y7 (· + 1) (ih F.2.2)
theorem zT {lB:List (Option Expr)} {ks:List Str} {dI:List Expr} {dp p:Pos} (en:aN A sc env y) (hk:KS lB ks) (F:F2 (λe x=>CE sc e x/\SE A c y (eval e env) x) dI xs) (hx:sc.isV x i) (nd:ks.Nodup) (hl:ks.length=xs.length) (IQ:ks≠ []/\ks.length<=15):
  SE A c y (eval (.Subscript (.Dict lB dI dp) (.Name x p) pos) env) (.dsel ks xs i):=by
 intro own Z s fr out h I;rw[tN]at h;have MY:(Ew env dp lB dI).length=ks.length:=by exact Er (gT (env:=env) (po:=dp) dI hk).2 (Er (Gc F) (Er hl.symm (Zk (Ln [min ks.length ks.length,ks.length] (.w .x .y) [Ge .x .y] rfl (min_eq_left (a:=ks.length) (b:=ks.length) (L0 [ks.length] .x .x rfl))) (Ln [ks.length,min ks.length ks.length] (.w .x .y) [Gf .y .x] rfl (min_eq_left (a:=ks.length) (b:=ks.length) (L0 [ks.length] .x .x rfl))))))
 have df:Ew env dp lB dI≠ []:=λq=>IQ.1 (List.eq_nil_of_length_eq_zero (by refine Er MY.symm (Er q ?_);rfl))
 refine Subscript_ (wpAny_Dict_pairs (knd:=strKind prog w) (gT (env:=env) (po:=dp) dI hk).1 df (by refine Er MY ?_; exact IQ.2) ?_);have MN:∀b o,s.heap.get? b = some o→(s.heap.push {cls:=.type "dict",data:=.dict #[]}).get? b = some o:=fun b o e=>pK _ b o e
 have I0:Inv y own Z (s.heap.push {cls:=.type "dict",data:=.dict #[]}) fr:=I.grow MN;have S0:Step y (bf xs) own Z s own Z {s with heap:=s.heap.push {cls:=.type "dict",data:=.dict #[]}}:=.grow (tk:=s.toks) MN;have nD:=A4 s.heap;have LD:dC y own Z s.heap (s.heap.push {cls:=.type "dict",data:=.dict #[]}) s.heap.objs.size:=⟨nD,(I.fresh nD).1,(I.fresh nD).2.1,(I.fresh nD).2.2,_,Z1 _ rfl⟩
 rcases be h with⟨e',f,hm,rfl⟩|⟨rs,f,hm,h⟩
 .refine YW (j6 (po:=dp) hk F hl own Z {s with heap:=s.heap.push {cls:=.type "dict",data:=.dict #[]}} fr _ hm I0) (fun D8 s' p=>?_) fun e s' p=>p.up (fun aa h=>h) S0
  obtain⟨_,⟨_,_,_,q,_⟩,_⟩:=p;exact iX q
 .refine YW (j6 (po:=dp) hk F hl own Z {s with heap:=s.heap.push {cls:=.type "dict",data:=.dict #[]}} fr _ hm I0) (fun D8 s₁ p=>?_) fun e s' p=>p.elim
  obtain⟨vs,⟨JZ,ac,aw,q,ai,bb,R⟩,C⟩:=p;obtain rfl:=iE q;dsimp only at ai;have U:=bb.loose LD;refine⟨ks.zip vs,C,(let ⟨o,es,ep,e,r⟩:=Heap.DictOf.new (knd:=strKind prog w) s.heap;⟨o,es,ep,U.2 o e,r⟩),λh' hD sb=>?_⟩;have hX:∀b,b=s.heap.objs.size-> ¬y.wr ac b/\ ¬y.F b/\ ¬aw b:=λb q=>by subst q;exact⟨U.1.2.1,U.1.2.2.1,U.1.2.2.2.1⟩
  have kp:∀b o, ¬b=s.heap.objs.size->s₁.heap.get? b=some o->h'.get? b=some o:=λb o q e=>sb.extBut b o q e
  have aY:Step y (bf xs) own Z s ac aw {s₁ with heap:=h',toks:=s₁.toks+D8.length}:=(S0.trans bb).other (X:=λb=>b=s.heap.objs.size) (λb q=>⟨q▸nD,(hX b q).1⟩) kp;cases gA:b9 rs with
  |none=>rw[gA]at h;exact ah h
  |some ds=>
   have h:=gA▸h;refine ag λG g=>?_
   rcases MS:f[i]? with _|⟨_|⟨_|_|_|kx|_|_|_⟩|_|_|_⟩<;>have h:=MS▸h<;>first|exact ah h|skip
   refine ag λG2 g2=>?_
   obtain⟨q,hq,rfl⟩:=fS h;rw[Za]at hq;obtain⟨d,hq⟩:=hq;obtain rfl:=hq.2;refine g2 ?_;refine ag λG1 g1=>?_
   obtain⟨j,u⟩:=vc hq.1;refine ag λG3 g3=>?_
   obtain⟨v,Q⟩:=((R.repAll gA).mono (λb o z e=>kp b o (λq=>(hX b q).2.2 z) e) λaa z=>z).get u.2;refine ag λG4 g4=>?_
   obtain⟨l,kv,cz,hr,sv⟩:=(ai.other hX kp).at' i _ MS (by intro z;cases z);refine ag λG5 g5=>?_
   cases sv with
   |str _ t o1 o2=>
   refine g5 ?_;refine g4 ?_;refine g3 ?_;refine g1 ?_;refine g ?_;refine eH (s:= {s₁ with heap:=h',toks:=s₁.toks+D8.length}) en hx cz hr ?_;have hz:(ks.zip vs)[j]? = some (kx,v):=by rw[List.getElem?_zip_eq_some];exact⟨u.1,Q.1⟩
   have hn:((ks.zip vs).map (·.1)).Nodup:=by exact Er (List.map_fst_zip (by refine Er hl (Er R.length.symm (Er (i6 hm) ?_));exact Zi _)) nd
   rw[merged_nil_of_nodup _ hn]at hD;exact tail_any (s:= {s₁ with heap:=h',toks:=s₁.toks+D8.length}) hD.typeIs slot_dict_getitem.lookup (wpAny_getItem_of (strKind_is prog w kx t) hD.mapOf (valueAt_of_get hn hz) (.val (s':= {s₁ with heap:=h',toks:=s₁.toks+D8.length+1}) (ai.other hX kp) (aQ aY) Q.2)) rfl
theorem Ap (gd:Gd c.glob) (en:aN A sc env y) (I:Inv y own Z s.heap fr) :∀ {es:List Expr} {xs:List Str} {Vs:List Value},NS sc es xs->f8 mg mb xs Vs-> ∀ {Q:List Value->Shared->Prop},Q Vs s->wpAny (model prog w) A (spliced (backTo pos (starEach es env))) Q E s:=by
 intro es xs Vs hn
 induction hn generalizing Vs with
 |nil=>
  intro hv Q h;cases Vs with
  |nil=>exact spliced_none h
  |cons=>exact hv.elim
 |cons hg t ih=>
  intro hv Q h;cases Vs with
  |nil=>exact hv.elim
  |cons v vs=>exact spliced_more (kP gd en I hg hv.1 (ih hv.2 h)) rfl
theorem f8.len:∀ {xs:List Str} {Vs:List Value},f8 mg mb xs Vs->Vs.length=xs.length:=by
 intro xs Vs h
 induction xs generalizing Vs with
 |nil=>
  cases Vs with
  |nil=>rfl
  |cons=>exact h.elim
 |cons x xs ih=>
  cases Vs with
  |nil=>exact h.elim
  |cons v vs=>exact Y7 (· + 1) (ih h.2)
set_option tactic.hygienic true in
theorem zR {x:Str} {cs:List Str} {es:List Expr} {k i:Nat} {yes no:List Str} {p p1 p2 pos:Pos} (R:Rn A c n) (en:aN A sc env y) (hg:sc.isG "isinstance") (hx:sc.isV x i) (hc:NS sc es cs) (IR:cs.length≤1000) (hs:tb.sbt.lookup cs = some (yes,no)) :
  SE A c y (eval (.Call (.Name "isinstance" p) [.Name x p1,.Tuple es k p2] [] pos) env) (.isx i yes no):=by
 intro own Z s fr out h I;rw[n9]at h;refine ag λG g=>?_
 refine aX (R.gd.askT cs yes no hs) λVs z=>?_
 split at h
 .refine g ?_
  rename_i kn hk;obtain⟨l,v,hl,hr,sv⟩:=I.at' i _ hk (by intro q;cases q);refine aX (ta h) λb u=>?_;refine Er u.2 ?_;have hb:=u.1
  refine iM (ye R.gd I sv) λa o C Q=>?_;obtain rfl:=Q.1;have e:=Q.2.1;have ho:=Q.2.2.1;have Kc:=Q.2.2.2
  have ask:dO B C Vs b:=by
   rcases hb with⟨rfl,hb⟩|⟨rfl,hb⟩
   .exact(z.2 kn C Kc).1 hb
   .exact(z.2 kn C Kc).2 hb
  refine Call_Name (args:=[.Name x p1,.Tuple es k p2]) rfl (di R.gd en I hg (fZ (.isi .int)) (hM (.isi .int)) (kc (.isi .int)) ?_);refine oz (b:=.isi .int) rfl ?_;refine Z6 (Z5 (eH en hx hl hr ?_));refine Z5 (Tuple_ (k:=k) (Ap R.gd en I hc z.1 ?_));refine YV (Z4 ?_) (by show Vs.toArray.size≤sizeLine; refine Er Zo (Er z.1.len (Er b6.symm ?_)); exact Zh IR (by decide));have kp:∀b o,s.heap.get? b = some o→(s.heap.push {cls:=.type "tuple",data:=.seq Vs.toArray}).get? b = some o:=pK _;exact ask prog w A _ {s with heap:=s.heap.push {cls:=.type "tuple",data:=.seq Vs.toArray}} a s.heap.objs.size o (fun a o e=>kp a o (I.base a o e)) (kp _ _ e) ho (Z1 _ rfl) _ fun tk=>.val (s':= {s with heap:=s.heap.push {cls:=.type "tuple",data:=.seq Vs.toArray},toks:=tk}) (I.grow kp) (.grow kp) (.bool b)
 .refine g ?_
  exact ah h
theorem F2.one {P:Expr->Ex->Prop} {a:Expr} {xs:List Ex} {M:List Ex->Prop} (F:F2 P [a] xs) (k:∀x,F2 P [a] [x]->M [x]):M xs:=by
 rcases xs with _|⟨x,_|_⟩
 .exact F.elim
 .exact k x F
 .exact F.2.2.elim
theorem F2.two {P:Expr->Ex->Prop} {a b:Expr} {M:List Ex->Prop} (F:F2 P [a,b] xs) (k:∀x z,F2 P [a,b] [x,z]->M [x,z]):M xs:=by
 rcases xs with _|⟨x,_|⟨z,_|_⟩⟩
 .exact F.elim
 .exact F.2.2.elim
 .exact k x z F
 .exact F.2.2.2.2.elim
theorem Ho {b:Bi} (R:Rn A c n) (en:aN A sc env y) (h:BX sc e b es) (F:F2 (λe x=>CE sc e x/\SE A c y (eval e env) x) es xs):SE A c y (eval e env) (.bi b xs):=
 BX.casesOn (motive:=λe b es aa=>F2 (λe x=>CE sc e x/\SE A c y (eval e env) x) es xs->SE A c y (eval e env) (.bi b xs)) h
  (λha hk hl F=>F2.two (M:=λxs=>SE A c y _ (.bi .count xs)) F λaa aA F=>Hm ha hk hl rfl F uA)
  (λhg IA F=>F2.two (M:=λxs=>SE A c y _ (.bi .dzip xs)) F λaa aA F=>zS R en hg IA F)
  (λF=>by cases xs with
   |nil=>exact vZ R
   |cons=>exact F.elim) F
end
section
variable {A:Around} {E:Value->Shared->Prop} {env:Env} {sc:Sc} {y:Lay}
 {bv bv':List Nat} {own ae ac:Addr->Option Nat} {Z Z' aw:Addr->Prop} {s s' s₁:Shared} {fr aq:Fm} {h h':Heap}
structure y8 (y:Lay) (i:Nat) (l:Loc) (v:Value) (h h':Heap):Prop where
 keep:∀a o,a≠l.addr->h.get? a=some o->h'.get? a=some o
 live:∃o,h'.get? l.addr=some o
 rd:eG h' l v
 oth:∀j k w,j≠i->y.loc j=some k->eG h k w->eG h' k w
 ok:∀j k,y.loc j=some k->nI h' k
 ns:∃m,h'.Ns y.L m
 si:∀p,y.slf=some p->y.si≠i
theorem y8.fz (p:y8 y i l v s.heap h') (I:Inv y own Z s.heap fr) (hl:y.loc i=some l) {d:D} (R:b5 s.heap Z v d):Inv y own Z h' (fr.set i (.fz d)):=I.setFz hl p.keep p.live p.rd p.oth p.ok p.ns p.si R
theorem y8.step {tk:Nat} (p:y8 y i l v s.heap h') (hl:y.loc i=some l) (I:Inv y own Z s.heap fr):Step y [i] own Z s own Z {s with heap:=h',toks:=tk} where
 sh:=⟨_,_,rfl⟩
 ext:=by
  have ne:∀a, ¬y.wr own a->a≠l.addr:=λa nw q=>nw (.inr (.inr ⟨i,l,hl,q.symm⟩))
  refine⟨λa o e nw nf=>p.keep a o (ne a nw) e,λa o e=>?_,λa o f e=>⟨o.slots,p.keep a o (λq=>I.wf.nf i l hl (q▸f)) e⟩⟩
  by_cases q:a=l.addr
  .exact q▸p.live
  .exact⟨o,p.keep a o q e⟩
 zm:=λaa z=>z
 zn:=λaa z=>.inl z
 on:=λaa aA e=>.inl e
 bind:=λj k w n hk r=>p.oth j k w (λq=>n (by refine Er q ?_;exact mem_singleton.mpr rfl)) hk r
theorem y8.owned (p:y8 y i l (.ref a) s.heap h') (I:Inv y own Z s.heap fr) (hl:y.loc i=some l) {d:D} (nw:¬y.wr own a) (nf:¬y.F a) (nz:¬Z a) (W:bT s.heap Z a d):Inv y (addO own a i) Z h' (fr.set i (.own d)):=
 I.setOwn hl p.keep p.rd p.oth p.ok p.ns p.si nw nf nz W
theorem fA {Q:Unit->Shared->Prop} (en:aN A sc env y) (hv:sc.vars.lookup x=some i) (hf:env.kindOf x≠some .free) (hl:y.loc i=some l) (I:Inv y own Z s.heap fr)
  (h:∀h' tk,y8 y i l v s.heap h'->Q () {s with heap:=h',toks:=tk}):wpAny (model prog w) A (storeName env x v) Q E s:=by
 refine ag λG3 g3=>?_
 rcases en.var x i hv with⟨hk,e⟩|⟨hk|⟨hk,_⟩,c,hc,e⟩
 .refine g3 ?_
  rw[hl]at e;obtain rfl:=aI e;obtain⟨m,hn⟩:=I.ok i _ hl;refine wpAny_storeName_local hk hn (λh' uH hs=>h h' _ ?_) (by refine Er en.kind ?_;rfl);refine⟨λa o q e=>hs.extBut a o q e,let ⟨o,_,_,e,_⟩:=uH;⟨o,e⟩,⟨_,uH,by simp⟩,λj k w hj eF r=>?_,λj k eF=>?_,?_,en.nsi x i hv⟩
  .by_cases q:k.addr=env.locals
   .refine ag λG4 g4=>?_
    obtain⟨x',e1,K4⟩:=(I.wf.apart j i k _ eF hl hj q).dict';subst e1;refine aX r λm' r=>?_
    have em:m' x'=m x':=by
     refine ag λG1 g1=>?_
     refine iM r.1 λo es ep q0=>?_;have ho:=q0.1;have hd:=q0.2.1;have O7:=q0.2.2.1;have Os:=q0.2.2.2
     refine ag λG2 g2=>?_
     obtain⟨o',CD,CH,lC,c5,O6,Oq⟩:=hn;rw[ho]at lC;obtain rfl:=aI lC;have c5:=hd▸c5;cases c5;refine g2 ?_;refine g1 ?_;rw[<- Os,Oq]
    exact g4 (⟨_,uH,by show(if x'=x then some v else m x')=some w;exact Er (Y1 K4) (Er em.symm (Er r.2 rfl))⟩)
   .exact r.keeps λo e=>hs.extBut _ o q e
  .by_cases q:k.addr=env.locals
   .cases k with
    |dict a z=>cases q;exact⟨_,uH⟩
    |cell a=>
     refine ag λG5 g5=>?_
     by_cases ti:j=i
     .refine g5 ?_
      subst ti;have eF:=hl▸eF;cases eF
     .refine g5 ?_
      refine aX ((I.wf.apart j i _ _ eF hl ti q).dict') λaa J=>?_;have u:=J.1;cases u
    |attr a ns z=>
     by_cases ti:j=i
     .subst ti;have eF:=hl▸eF;cases eF
     .refine aX ((I.wf.apart j i _ _ eF hl ti q).dict') λaa U=>?_;have u:=U.1;cases u
   .exact(I.ok j k eF).keeps λo e=>hs.extBut _ o q e
  .by_cases q:y.L=env.locals
   .exact⟨_,q▸uH⟩
   .exact aX I.nsL λm hm=>(⟨m,hm.sameBut hs q⟩)
 .refine g3 ?_
  rw[hl]at e;obtain rfl:=aI e;obtain⟨Ky,Io⟩:=I.ok i _ hl;refine wpAny_storeName_cell en.kind hk hc Io λh' pS hs=>?_
  have P:y8 y i (.cell c) v s.heap h':=by
   refine⟨λa o q e=>hs.extBut a o q e,let ⟨o,e,_⟩:=pS;⟨o,e⟩,pS,λj k w hj eF r=>?_,λj k eF=>?_,?_,en.nsi x i hv⟩
   .by_cases q:k.addr=c
    .exact(I.wf.apart j i k _ eF hl hj q).noCell
    .exact r.keeps λo e=>hs.extBut _ o q e
   .by_cases q:k.addr=c
    .refine ag λG g=>?_
     by_cases ti:j=i
     .refine g ?_
      subst ti;rw[hl]at eF;exact Er (aI eF).symm (⟨_,pS⟩)
     .exact g ((I.wf.apart j i _ _ eF hl ti q).noCell)
    .exact(I.ok j k eF).keeps λo e=>hs.extBut _ o q e
   .obtain⟨m,hm⟩:=I.nsL
    exact⟨m,hm.sameBut hs λq=>I.wf.cl i c hl q.symm⟩
  exact h h' s.toks P
 .exact g3 (absurd hk hf)
noncomputable def Lay.puts (y:Lay) (C:Addr) (i:Nat) (vs:List Str):Lay:= {y with loc:=λj=>if i<=j then(vs[j-i]?).map (Loc.dict C) else y.loc j}
section
variable {C:Addr} {i j k:Nat} {vs:List Str} {v:Str} {l:Loc} {a:Addr}
theorem nF (h:vs[k]? = some v):(y.puts C i vs).loc (i+k)=some (.dict C v):=by
 show(if i<=i+k then(vs[i+k-i]?).map (Loc.dict C) else _)=_
 refine Er (Y0 (Zl i k)) ?_;rw[Zm];refine Er h ?_;rfl
theorem cY (hi:∀j l,y.loc j=some l->j<i) (h:y.loc j=some l):(y.puts C i vs).loc j=some l:=(Y1 (Nat.not_le.mpr (hi j l h))).trans h
theorem br (h:(y.puts C i vs).loc j=some l):(∃v,i<=j/\vs[j-i]? = some v/\l = .dict C v)\/(j<i/\y.loc j=some l):=by
 have h:(if i<=j then(vs[j-i]?).map (Loc.dict C) else y.loc j)=some l:=h
 by_cases q:i<=j
 .have h:=(Y0 q)▸h
  cases e:vs[j-i]? with
  |none=>have h:=e▸h;exact ah h
  |some v=>rw[e]at h;exact .inl ⟨v,q,rfl,(Y9 h).symm⟩
 .have h:=(Y1 q)▸h;exact .inr ⟨Nat.not_le.mp q,h⟩
theorem qX (h:(y.puts C i vs).wr own a):y.wr own a\/a=C:=by
 rcases h with h|h|⟨j,k,hk,rfl⟩
 .exact .inl (.inl h)
 .exact .inl (.inr (.inl h))
 .rcases br hk with⟨_,_,_,rfl⟩|⟨_,hk⟩
  .exact .inr rfl
  .exact .inl (.inr (.inr ⟨j,k,hk,rfl⟩))
theorem qK (hi:∀j l,y.loc j=some l->j<i) (h:y.wr own a):(y.puts C i vs).wr own a:=by
 rcases h with h|h|⟨j,k,hk,rfl⟩
 .exact .inl h
 .exact .inr (.inl h)
 .exact .inr (.inr ⟨j,k,cY hi hk,rfl⟩)
theorem Inv.put {m:Str->Option Value} (I:Inv y own Z h fr) (hi:∀j l,y.loc j=some l->j<i) (nd:vs.Nodup) (nw:¬y.wr own C) (nf:¬y.F C) (nz:¬Z C) (hn:h.Ns C m):Inv (y.puts C i vs) own Z h fr:=by
 have nC:∀j k,y.loc j=some k->k.addr≠C:=λj k e q=>nw (.inr (.inr ⟨j,k,e,q⟩))
 refine⟨⟨λj j' k k' hk eF df hq=>?_,λj k hk=>?_,I.wf.nL,λj a hk=>?_,λj a ns x hk=>?_⟩,I.base,I.zb,I.zo,λj k hk=>?_,λj k hk=>?_,I.zL,I.oL,I.zF,I.oF,I.zlv,I.olv,I.flv,λj k hk=>?_,I.nsL,λp e=>⟨(I.sf p e).z,(I.sf p e).ob,let ⟨l,hl,r⟩:=(I.sf p e).rd;⟨l,cY hi hl,r⟩⟩,λj sl e n=>?_⟩
 .rcases br hk with⟨v,l1,e1,rfl⟩|⟨hj,hk⟩<;>rcases br eF with⟨v',l2,e2,rfl⟩|⟨O8,eF⟩
  .refine .dict C v v' rfl rfl λq=>df ?_
   subst q;have:=(List.getElem_inj (h₀:=(List.getElem?_eq_some_iff.mp e1).1) (h₁:=(List.getElem?_eq_some_iff.mp e2).1) nd).mp ((List.getElem?_eq_some_iff.mp e1).2.trans (List.getElem?_eq_some_iff.mp e2).2.symm);exact(Le [j,j',j-i,j'-i,i] (.e .x .y) [Gp .z .u,Gq (.a .z (.v 4)) .x,Gp (.a .u (.v 4)) .y] rfl this (Zd (n:=j) (m:=i) l1) (Zd (n:=j') (m:=i) l2))
  .exact absurd hq.symm (nC _ _ eF)
  .exact absurd hq (nC _ _ (by assumption))
  .exact I.wf.apart j j' k k' hk eF df hq
 .rcases br hk with⟨_,_,_,rfl⟩|⟨hj,hk⟩
  .exact nf
  .exact I.wf.nf j k hk
 .rcases br hk with⟨_,_,_,q⟩|⟨hj,hk⟩
  .cases q
  .exact I.wf.cl j a hk
 .rcases br hk with⟨_,_,_,q⟩|⟨hj,hk⟩
  .cases q
  .exact I.wf.al j a ns x hk
 .rcases br hk with⟨_,_,_,rfl⟩|⟨hj,hk⟩
  .exact nz
  .exact I.zl j k hk
 .rcases br hk with⟨_,_,_,rfl⟩|⟨hj,hk⟩
  .show own C=none
   cases q:own C with
   |none=>rfl
   |some z=>exact absurd (.inl (by refine Er q ?_;exact λn=>by cases n)) nw
  .exact I.ol j k hk
 .rcases br hk with⟨_,_,_,rfl⟩|⟨hj,hk⟩
  .exact⟨m,hn⟩
  .exact I.ok j k hk
 .obtain⟨l,v,hl,r1,r⟩:=I.at' j sl e n
  exact⟨l,v,cY hi hl,r1,r⟩
theorem Inv.unput (I:Inv (y.puts C i vs) own Z h fr) (wf:y.Wf) (hi:∀j l,y.loc j=some l->j<i) (hs:∀p,y.slf=some p-> ∃l,y.loc y.si=some l) (hf:∀j,i<=j->j<i+vs.length-> ∀sl,fr[j]? = some sl->sl = .no):Inv y own Z h fr where
 wf:=wf
 base:=I.base
 zb:=I.zb
 zo:=I.zo
 zl:=λj k hk=>I.zl j k (cY hi hk)
 ol:=λj k hk=>I.ol j k (cY hi hk)
 zL:=I.zL
 oL:=I.oL
 zF:=I.zF
 oF:=I.oF
 zlv:=I.zlv
 olv:=I.olv
 flv:=I.flv
 ok:=λj k hk=>I.ok j k (cY hi hk)
 nsL:=I.nsL
 sf:=λp e=>⟨(I.sf p e).z,(I.sf p e).ob,by
  refine ag λG1 g1=>?_
  refine aX (hs p e) λl hl=>?_
  obtain⟨l',cz,r⟩:=(I.sf p e).rd;have cz:(y.puts C i vs).loc y.si=some l':=cz;rw[cY hi hl]at cz;obtain rfl:=aI cz;refine g1 ?_;exact⟨l,hl,r⟩⟩
 at':=λj sl e n=>by
  refine ag λG g=>?_
  obtain⟨k,v,hk,r1,r⟩:=I.at' j sl e n
  rcases br hk with⟨_,hj,q,rfl⟩|⟨hj,hk⟩
  .exact g (absurd (hf j hj (Ln [j,i,vs.length,j-i] (.w (.p 1 .x) (.a .y .z)) [Gl (.p 1 .u) .z,Gf (.a .u .y) .x] rfl (List.getElem?_eq_some_iff.mp q).1 (Zd (n:=j) (m:=i) hj)) sl e) n)
  .exact g (⟨k,v,hk,r1,r⟩)
theorem Step.put (S:Step y bv own Z s ae Z' s') (hi:∀j l,y.loc j=some l->j<i) (hC:s.heap.get? C=none):Step (y.puts C i vs) bv own Z s ae Z' s' where
 sh:=S.sh
 ext:=⟨λa o e nw nf=>S.ext.keep a o e (λq=>nw (qK hi q)) nf,S.ext.live,S.ext.fram⟩
 zm:=S.zm
 zn:=S.zn
 on:=S.on
 bind:=λj k v n hk r=>by
  rcases br hk with⟨_,_,_,rfl⟩|⟨hj,hk⟩
  .obtain⟨m,⟨o,_,_,e,_⟩,_⟩:=r;rw[hC]at e;exact ah e
  .exact S.bind j k v n hk r
theorem Step.unput (S:Step (y.puts C i vs) bv own Z s ae Z' s') (hi:∀j l,y.loc j=some l->j<i) (hC:s.heap.get? C=none):Step y bv own Z s ae Z' s' where
 sh:=S.sh
 ext:=⟨λa o e nw nf=>S.ext.keep a o e (λq=>(qX q).elim nw λq=>by rw[q,hC]at e;exact ah e) nf,S.ext.live,S.ext.fram⟩
 zm:=S.zm
 zn:=S.zn
 on:=S.on
 bind:=λj k v n hk r=>S.bind j k v n (cY hi hk) r
end
end
noncomputable def vj (env:Env):List (Str×NameKind)->List (Str×Addr)->List (Str×Addr)
 |[],acc=>acc
 |(n,k)::r,acc=>if k == .free then vj env r ((n,(env.cells.lookup n).getD 0)::acc) else vj env r acc
theorem mK {env:Env} {x:Str×NameKind} {r:List (Str×NameKind)} {acc:List (Str×Addr)}:vj env (x::r) acc=if x.2 == .free then vj env r ((x.1,(env.cells.lookup x.1).getD 0)::acc) else vj env r acc:=rfl
theorem j3 {env:Env} (h:∀x∈scope.names,x.2 = .free-> ∃c,env.cells.lookup x.1=some c):closureFor scope env=pure (vj env scope.names []):=by
 simp only[closureFor]
 suffices H:∀(l:List (Str×NameKind)) (acc:List (Str×Addr)),(∀x∈l,x.2 = .free-> ∃c,env.cells.lookup x.1=some c)->(forIn l acc λx r=>match x with
   |(name,kind)=>if (kind==NameKind.free)=true then do let a <- cellOf env name;pure (ForInStep.yield ((name,a)::r)) else pure (ForInStep.yield r))=(pure (vj env l acc):Sem (List (Str×Addr))) by
  refine Er (H _ _ h) ?_
  rfl
 intro l
 induction l with
 |nil=>intro acc _;rfl
 |cons x l ih=>
  intro acc hx;rw[forIn_cons];cases hk:x.2==NameKind.free with
  |false=>
   dsimp only;refine Er hk (Er (Y1 Z7) ?_);refine Eq.trans ?_ ((ih acc (mc hx)).trans ?_)
   .rfl
   .rw[mK,hk];rfl
  |true=>
   dsimp only;refine Er hk (Er (Y0 rfl) ?_);refine aX (hx (x.1,x.2) Zt (by simpa using hk)) λc hc=>?_
   have:cellOf env x.1=pure c:=by unfold cellOf;exact Er hc rfl
   refine Er this ?_;refine Eq.trans ?_ ((ih ((x.1,c)::acc) (mc hx)).trans ?_)
   .rfl
   .rw[mK,hk,hc];rfl
set_option tactic.hygienic true in
theorem FA {env:Env}:∀(l:List (Str×NameKind)) (acc:List (Str×Addr)),(∀x∈l,x.2 = .free-> ∃c,env.cells.lookup x.1=some c)->(∀p∈acc,env.cells.lookup p.1=some p.2)-> ∀p∈vj env l acc,env.cells.lookup p.1=some p.2:=by
 intro l acc hx h
 induction l generalizing acc h with
 |nil=>exact h
 |cons p0 l ih=>
  have uF:∀x∈l,x.2 = .free-> ∃c,env.cells.lookup x.1=some c:=(mc hx)
  rw[mK]
  split
  .rename_i hk
   refine ih _ uF λp hp=>?_
   rcases mem_cons.mp hp with rfl|hp
   .refine aX (hx (p0.1,p0.2) Zt (by simpa using hk)) λc hc=>?_
    simp[hc]
   .exact h p hp
  .exact ih acc uF h
theorem Bv {env:Env}:∀(l:List (Str×NameKind)) (acc:List (Str×Addr)), ∀p∈acc,p∈vj env l acc:=by
 intro l acc p h
 induction l generalizing acc p h with
 |nil=>exact h
 |cons p0 l ih=>
  rw[mK]
  split
  .exact ih _ p (Zu _ h)
  .exact ih _ p h
theorem Bu {env:Env}:∀(l:List (Str×NameKind)) (acc:List (Str×Addr)) (x:Str×NameKind),x∈l->x.2 = .free-> ∃c,(x.1,c)∈vj env l acc:=by
 intro l acc x h hx
 induction l generalizing acc x hx with
 |nil=>cases h
 |cons p0 l ih=>
  obtain⟨n,k⟩:=p0
  rcases mem_cons.mp h with rfl|h
  .have hk:k = .free:=hx
   subst hk;exact⟨(env.cells.lookup n).getD 0,by rw[mK];exact Bv l _ _ Zt⟩
  .rw[mK]
   split
   .exact ih _ x h hx
   .exact ih _ x h hx
theorem ig:∀ {l:List (Str×α)} {x:Str} {c:α},(x,c)∈l-> ∃c',l.lookup x=some c'/\(x,c')∈l:=by
 intro l x c h
 induction l generalizing x c with
 |nil=>cases h
 |cons p0 l ih=>
  refine Er ZC ?_;cases hx:x==p0.1 with
  |true=>simp only[beq_iff_eq]at hx;subst hx;exact⟨p0.2,rfl,Zt⟩
  |false=>
   rcases mem_cons.mp h with q|h
   .cases q;simp at hx
   .exact aX (ih h) λc' Q=>(⟨c',Q.1,Zu _ Q.2⟩)
theorem mem_of_lookup:∀ {l:List (Str×α)} {x:Str} {c:α},l.lookup x=some c->(x,c)∈l:=by
 intro l x c h
 induction l generalizing x c with
 |nil=>exact ah h
 |cons p0 l ih=>
  obtain⟨n,a⟩:=p0;rw[ZC]at h;cases hx:x==n with
  |true=>rw[hx]at h;refine Er (aI h) ?_;simp only[beq_iff_eq]at hx;subst hx;exact Zt
  |false=>have h:=hx▸h;exact Zu _ (ih h)
theorem bK {env:Env} {k:NameKind} (hk:k≠ .free):∀ {names:List (Str×NameKind)} {x:Str},names.lookup x=some k->
  (names.map λ(n,k)=>if (k==NameKind.free&&env.scope.kind == .function&&env.kindOf n==some .cell) then(n,NameKind.cell) else(n,k)).lookup x=some k
 |[],_,h=>by simp at h
 |(n,k')::r,x,h=>by
  show List.lookup x ((if (k'==NameKind.free&&env.scope.kind == .function&&env.kindOf n==some .cell)=true then(n,NameKind.cell) else(n,k'))::_)=_
  cases hx:x==n with
  |true=>
   simp only[ZC,hx]at h;cases h;have:(k==NameKind.free)=false:=by simpa using hk
   simp[ZC,hx,this]
  |false=>
   simp only[ZC,hx]at h
   by_cases hc:(k'==NameKind.free&&env.scope.kind == .function&&env.kindOf n==some .cell)=true
   .rw[Y0 hc];simp only[ZC,hx];exact(@bK env k hk r x) h
   .rw[Y1 hc];simp only[ZC,hx];exact(@bK env k hk r x) h
theorem bU {env:Env}:∀ {names:List (Str×NameKind)} {x:Str},names.lookup x=some .free->
  (names.map λ(n,k)=>if (k==NameKind.free&&env.scope.kind == .function&&env.kindOf n==some .cell) then(n,NameKind.cell) else(n,k)).lookup x=some .free\/
  (names.map λ(n,k)=>if (k==NameKind.free&&env.scope.kind == .function&&env.kindOf n==some .cell) then(n,NameKind.cell) else(n,k)).lookup x=some .cell
 |[],_,h=>by simp at h
 |(n,k')::r,x,h=>by
  refine Er Zz ?_;cases hx:x==n with
  |true=>
   simp only[ZC,hx]at h;refine Er (aI h) ?_
   by_cases hc:(NameKind.free==NameKind.free&&env.scope.kind == .function&&env.kindOf n==some .cell)=true
   .right;show List.lookup x ((if _ then _ else _)::_)=_;refine Er (Y0 hc) ?_;simp only[ZC,hx]
   .left;show List.lookup x ((if _ then _ else _)::_)=_;refine Er (Y1 hc) ?_;simp only[ZC,hx]
  |false=>
   simp only[ZC,hx]at h;show List.lookup x ((if _ then _ else _)::_)=_\/List.lookup x ((if _ then _ else _)::_)=_
   by_cases hc:(k'==NameKind.free&&env.scope.kind == .function&&env.kindOf n==some .cell)=true
   .refine Er (Y0 hc) ?_;simp only[ZC,hx];exact(@bU env r x) h
   .refine Er (Y1 hc) ?_;simp only[ZC,hx];exact(@bU env r x) h
theorem ii {p:Str×Nat->Bool}:∀ {l:List (Str×Nat)} {x:Str} {i:Nat},(∀a b c,p (a,b)=p (a,c))->(l.filter p).lookup x=some i->l.lookup x=some i/\p (x,i)=true:=by
 intro l x i hp h
 induction l generalizing x i hp with
 |nil=>exact ah h
 |cons p0 l ih=>
  obtain⟨n,j⟩:=p0;refine Er ZC ?_
  by_cases q:p (n,j)=true
  .have h:=(List.filter_cons_of_pos q)▸h;rw[ZC]at h
   cases hx:x==n with
   |true=>rw[hx]at h;refine Er (aI h).symm ?_;simp only[beq_iff_eq]at hx;subst hx;exact⟨rfl,q⟩
   |false=>rw[hx]at h;exact ih hp h
  .rw[List.filter_cons_of_neg q]at h
   obtain⟨h1,h2⟩:=ih hp h;cases hx:x==n with
   |true=>simp only[beq_iff_eq]at hx;subst hx;have h2:=(hp x i j)▸h2;exact absurd h2 q
   |false=>exact⟨h1,h2⟩
theorem kO {l r:List (Str×Nat)} :(l++r).lookup x=some i->l.lookup x=some i\/r.lookup x=some i:=by
 induction l with
 |nil=>exact .inr
 |cons p l ih=>
  intro h;rw[cons_append,ZC]at h;refine Er ZC ?_;cases q:x==p.1 with
  |true=>rw[q]at h;exact .inl h
  |false=>rw[q]at h;exact ih h
theorem pF {l r:List (Str×Nat)} :l.lookup x=some i->(l++r).lookup x=some i:=by
 induction l with
 |nil=>intro h;exact ah h
 |cons p l ih=>
  intro h;rw[ZC]at h;refine Er cons_append (Er ZC ?_);cases q:x==p.1 with
  |true=>rw[q]at h;exact h
  |false=>rw[q]at h;exact ih h
theorem t5:∀ {vs:List Str} {i k:Nat},vs.Nodup->vs[k]? = some x->(vs.zipIdx i).lookup x=some (i+k):=by
 intro vs i k nd h
 induction vs generalizing i k with
 |nil=>exact ah h
 |cons v vs ih=>
  cases k with
  |zero=>refine Er (aI h) ?_;refine Er zipIdx_cons ?_;refine Er ZC ?_;rw[beq_self_eq_true];rfl
  |succ k=>
    rw[nodup_cons]at nd;refine Er zipIdx_cons ?_;refine Er ZC ?_;refine Er (beq_eq_false_iff_ne.mpr λe=>nd.1 (e▸Zs (i:=k) h):(x==v)=false) ?_;rw[add_comm k 1,<- Nat.add_assoc];exact ih nd.2 h
theorem ie:∀ {vs:List Str} {i:Nat},(vs.zipIdx i).lookup x=some j-> ∃k,j=i+k/\vs[k]? = some x:=by
 intro vs i h
 induction vs generalizing i with
 |nil=>exact ah h
 |cons v vs ih=>
  rw[zipIdx_cons,ZC]at h;cases q:x==v with
  |true=>rw[q]at h;exact Er (aI h) (⟨0,rfl,by refine Er (beq_iff_eq.mp q) ?_;rfl⟩)
  |false=>
   rw[q]at h;exact aX (ih h) λk Q=>(⟨k+1,by exact(Le [j,i,k] (.e .x (.a .y (.p 1 .z))) [Gp .x (.a (.p 1 .y) .z)] rfl Q.1),Q.2⟩)
theorem yx {env:Env} {vs:List Str} (en:aN A sc env y) (ok:gN scope sc vs) (hi:sc.hi<=i):
  closureFor scope env=pure (vj env scope.names [])/\aN A (bJ scope sc vs i) (compEnvC scope (vj env scope.names []) C env) (y.puts C i vs):=by
 have cells:∀x∈scope.names,x.2 = .free-> ∃c,env.cells.lookup x.1=some c:=λx hx hf=>by
  refine ag λG1 g1=>?_
  obtain⟨h1,h0,⟨j,hj⟩,h3⟩:=ok.free x hx hf
  rcases en.var x.1 j hj with⟨hk,_⟩|⟨_,c,hc,_⟩
  .refine g1 ?_
   rcases en.cf x.1 h3 with q|q<;>(have q:=hk▸q;cases q)
  .refine g1 ?_
   exact⟨c,hc⟩
 refine⟨j3 cells,⟨en.stk,λj l hl=>?_,ok.kind,en.glob,en.blt,en.frame,en.top,λx j hx=>?_,λx hx=>?_,λx hx=>?_,λq=>absurd rfl q,λx j hx p e=>?_,λp e=>let ⟨l,hl⟩:=en.slo p e;⟨l,cY (λj l h=>Ze (en.hi j l h) hi) hl⟩⟩⟩
 .show j<i+vs.length
  rcases br hl with⟨v,h1,h2,_⟩|⟨h1,hl⟩
  .have u:=List.getElem?_eq_some_iff.mp h2;exact(Ln [j,i,vs.length,j-i] (.w (.p 1 .x) (.a .y .z)) [Gl (.p 1 .u) .z,Gf (.a .u .y) .x] rfl u.1 (Zd (n:=j) (m:=i) h1))
  .exact Ze h1 (Zl _ _)
 .unfold bJ at hx
  rcases kO hx with hx|hx
  .refine aX (ie hx) λk z=>?_;exact Er z.1 (.inl ⟨lookup_relabel_local (ok.loc x (Zs z.2)),nF z.2⟩)
  .-- one of the names around
   have Q:=ii (λaa aA bF=>rfl) hx;have mq:scope.names.lookup x=some .free:=by simpa using Q.2
   right
   refine ag λG g=>?_
   rcases en.var x j Q.1 with⟨hk,_⟩|⟨_,c,hc,hl⟩
   .refine g ?_
    rcases en.cf x (ok.free _ (mem_of_lookup mq) rfl).2.2.2 with q|q<;>(have q:=hk▸q;cases q)
   .refine g ?_
    refine⟨?_,c,?_,?_⟩
    .rcases bU (env:=env) mq with q|q
     .exact .inr ⟨q,(ok.free _ (mem_of_lookup mq) rfl).2.1⟩
     .exact .inl q
    .refine aX (Bu (env:=env) scope.names [] _ (mem_of_lookup mq) rfl) λc1 hm=>?_
     refine aX (ig hm) λc2 Z=>?_
     have:=FA scope.names [] cells (λp hp=>by cases hp) _ Z.2;have:env.cells.lookup x=some c2:=this;rw[hc]at this;exact Er (aI this) Z.1
    .exact cY (λj l h=>Ze (en.hi j l h) hi) hl
 .exact bK (by intro q;cases q) hx
 .rcases hx with hx|hx
  .exact .inl (bK (by intro q;cases q) hx)
  .exact(bU hx).symm
 .refine aX (en.slo p e) λl hl=>?_
  unfold bJ at hx
  rcases kO hx with hx|hx
  .exact aX (ie hx) λk z=>(λq=>absurd (show y.si<i from(Ze (en.hi _ l hl) hi)) (Nat.not_lt.mpr (by refine Er (show y.si=j from q) (Er z.1 ?_);exact Zl _ _)))
  .exact en.nsi x j (ii (λaa aA bF=>rfl) hx).1 p e
section
variable {A:Around} {E:Value->Shared->Prop} {env:Env} {sc:Sc} {y:Lay} {own:Addr->Option Nat} {Z:Addr->Prop} {s:Shared} {fr:Fm}
theorem JG:tb.an.length<=sizeLine:=by rw[sizeLine_eq];exact(by decide:5<=16777216)
theorem uf {a:Str} {glob:List D} {p:Addr×Obj} {Q:Unit->Shared->Prop} (gd:Gd glob) (J:jV sc env y p dx) (hx:sc.isA x a i) (hl:y.loc i=some l) (I:Inv y own Z s.heap fr)
  (h:∀h' tk,y8 y i l v s.heap h'->Q () {s with heap:=h',toks:=tk}):wpAny (model prog w) A (setAttr (.ref p.1) a v) Q E s:=by
 refine ag λG g=>?_
 obtain⟨c,C,pR,hC,tj⟩:=J.cls;refine iM (gd.pl c pR) λC' N mN u=>?_;have rI:=u.1;have P:=u.2.1;have jn:=u.2.2.1
 have rI:=hC▸rI;cases rI;have sf:=I.sf p J.slf;obtain⟨ha,Iv⟩:=J.an a i hx.at';rw[hl]at Iv;obtain rfl:=aI Iv;refine aX (I.ok i _ hl) λmA U=>?_
 obtain⟨nm,q,bs,sn,sub,col,dd,k0,k1,k2,k3,k5,Cv⟩:=(P.cls.keeps I.base).obj;have N8:p.1≠C:=λe=>by
  have:=sf.ob;rw[e,Cv]at this;exact J.nc _ (Y7 Obj.data (aI this)).symm
 refine g ?_;refine store_attr PySem.F.store_object Cv (P.cls.keeps I.base).ns (P.quiet _ (Zx _ (by decide))) (jn a ha).1 (jn a ha).2 N8 ⟨p.2,sf.ob,tj,J.nc,.inr ⟨dx,J.dic,J.ne,U.1⟩⟩ (λh' tk I' hk Ip=>?_) U.2 JG;refine h h' tk ?_;refine ag λG2 g3=>?_
 obtain⟨o1,g1,e1,e2,e3,e4⟩:=Ip _ sf.ob;have MV:h'.get? p.1=some p.2:=by
  refine Er g1 ?_;obtain⟨_,⟨_,_,_,_⟩⟩:=p;cases e1;cases e2;cases e3;cases((e4 dx J.dic).trans J.dic.symm);rfl
 have kp:∀b o,b≠dx->s.1.get? b=some o->h'.get? b=some o:=λb o n e=>by
  by_cases q:b=p.1
  .subst q;rw[sf.ob]at e;refine Er (aI e).symm ?_;exact MV
  .exact hk b o q (λNT Kk e0 e' q'=>by have e0:=sf.ob▸e0;obtain rfl:=aI e0;have e':=J.dic▸e';obtain rfl:=aI e';exact n q') e
 have J5:h'.Ns1 dx (λz=>if z=a then some v else mA z)/\Within (λz=>if z=a then some v else mA z) tb.an:=by
  refine⟨?_,λz hz=>?_⟩
  .refine aX I' λo I'=>?_;have ho:=I'.1;have r:=I'.2.2.2
   rw[MV]at ho;obtain rfl:=aI ho
   rcases r with⟨r,_⟩|⟨d',c5,_,r⟩
   .have r:=J.dic▸r;cases r
   .have c5:=J.dic▸c5;refine Er (aI c5) ?_;exact r
  .by_cases q:z=a
   .exact q▸ha
   .exact U.2 z λe=>hz (by show(if z=a then some v else mA z)=none;refine Er (Y1 q) ?_;exact e)
 have key:∀j k,y.loc j=some k->j≠i->k.addr=dx-> ∃a',k = .attr dx tb.an a'/\a'≠a:=λj k hk hj q=>(I.wf.apart j i k _ hk hl hj q).attr'
 refine g3 ?_;refine⟨kp,?_,⟨_,J5,Y0 rfl⟩,λj k w hj hk r=>?_,λj k hk=>?_,?_,λp' aa q=>?_⟩
 .obtain⟨⟨o,_,_,e,_⟩,_⟩:=J5;exact⟨o,e⟩
 .by_cases q:k.addr=dx
  .obtain⟨a',rfl,n⟩:=key j k hk hj q
   obtain⟨m',⟨hm,_⟩,e⟩:=r;have em:m' a'=mA a':=by
    refine iM hm λo es ep hm=>?_;have ho:=hm.1;have hd:=hm.2.1;have hf:=hm.2.2.2.2
    refine ag λG1 g2=>?_
    obtain⟨o',CD,CH,lC,c5,_,_,AY⟩:=U.1;rw[ho]at lC;obtain rfl:=aI lC;have c5:=hd▸c5;cases c5;refine g2 ?_;rw[<- hf,AY]
   exact⟨_,J5,by show(if a'=a then some v else mA a')=some w;refine Er (Y1 n) (Er em.symm ?_);exact e⟩
  .exact r.keeps λo e=>kp _ o q e
 .by_cases q:k.addr=dx
  .obtain⟨a',rfl⟩:=J.zd j k hk q
   exact⟨_,J5⟩
  .exact(I.ok j k hk).keeps λo e=>kp _ o q e
 .obtain⟨m,hn⟩:=I.nsL
  exact⟨m,hn.at' λo e=>kp _ o (λq=>I.wf.al i _ _ _ hl q.symm) e⟩
 .have:=J.ls;rw[q]at this;have this:=hl▸this;cases this
end
structure Lv (P fs:Addr->Prop) (h h':Heap):Prop where
 keep:∀b o,h.get? b=some o-> ¬P b-> ¬fs b->h'.get? b=some o
 slot:∀b o,fs b-> ¬P b->h.get? b=some o-> ∃sl,h'.get? b=some {o with slots:=sl}
 live:∀b o,h.get? b=some o-> ∃o',h'.get? b=some o'
theorem Lv.trans {P:Addr->Prop} {GH:Heap} (x:Lv P fs h h') (z:Lv P fs h' GH):Lv P fs h GH where
 keep:=λb o e p f=>z.keep b o (x.keep b o e p f) p f
 slot:=λb o f p e=>let ⟨_,e'⟩:=x.slot b o f p e;let ⟨sl,Bm⟩:=z.slot b _ f p e';⟨sl,Bm⟩
 live:=λb o e=>let ⟨o',e'⟩:=x.live b o e;z.live b o' e'
theorem Lv.upd {P:Addr->Prop} {T:Addr} {f:Obj->Obj} {o:Obj} (p:P T) (e:h.get? T=some o) (q:(f o).isFreed=false):Lv P fs h (h.update T f) where
 keep:=λb o e n aa=>(Z0 h f λq:T=b=>n (q▸p)).trans e
 slot:=λb o aa n e=>⟨o.slots,(Z0 h f λq:T=b=>n (q▸p)).trans e⟩
 live:=λb o' e'=>by
  by_cases z:b=T
  .subst z;exact⟨_,Heap.get?_update_self f e q⟩
  .exact⟨o',(Z0 h f (Ne.symm z)).trans e'⟩
theorem Lv.push {P:Addr->Prop} (o:Obj):Lv P fs h (h.push o) where
 keep:=λb o e aa aA=>pK _ b o e
 slot:=λb o aa aA e=>⟨o.slots,pK _ b o e⟩
 live:=λb o e=>⟨o,pK _ b o e⟩
theorem Lv.slots {P:Addr->Prop} {S:List Addr} (x:Heap.SlotsOnly S h h') (k:∀b∈S,fs b):Lv P fs h h' where
 keep:=λb o e aa f=>(x.2.1 b λq=>f (k b q)).trans e
 slot:=λb o aa aA e=>x.2.2 b o e
 live:=λb o e=>let ⟨_,e⟩:=x.2.2 b o e;⟨_,e⟩
theorem Lv.refl {P:Addr->Prop} :Lv P fs h h:=⟨λaa aA e bF gy=>e,λaa o aA bF e=>⟨o.slots,e⟩,λaa o e=>⟨o,e⟩⟩
theorem yv (o:Obj) (f:Array Value->Array Value):(Obj.mapFields f o).dict=o.dict:=by obtain⟨c,d,dt,sl⟩:=o;cases dt<;>rfl
def dD (h:Heap) (P:Addr->Prop) (a:Addr) (nm:Str):Prop:=
 P a/\ ∃oe vs C m,h.get? a=some oe/\(oe.cls = .ref C/\oe.dict=none)/\oe.data = .fields vs/\B.Ns mainGlobals m/\m nm=some (.ref C)/\
  ∃T oT ts,vs[1]? = some (.ref T)/\T≠a/\h.get? T=some oT/\oT.data = .fields ts/\3<ts.size/\P T
theorem dD.is {P:Addr->Prop} :dD h P a nm->iv h P a nm:=by
 intro x;obtain⟨p,oe,vs,C,m,h1,h2,h3,h4,h5,h6⟩:=x;exact⟨p,oe,vs,C,m,h1,h2,h3,h4,h5,.inr h6⟩
section
variable {M:Model} {A:Around} {E:Value->Shared->Prop} {s:Shared} {env e0:Env} {dX:List Env} {L a:Addr} {nm:Str} {P:Addr->Prop} {Q:Unit->Shared->Prop}
theorem mF {oe:Obj} {vs:Array Value} {m:Str->Option Value} {head:Value} {A3:Bool} (GF:A.frames=some (e0::dX)) (E0:e0.frame=env.frame) (hl:s.heap.FunFrames B (e0::dX)) (hf:env.frame=some L) (he:s.heap.get? a=some oe) (hd:oe.data = .fields vs) (hsz:1<vs.size)
  (hc:oe.cls = .ref C/\oe.dict=none) (hn:B.Ns mainGlobals m) (hm:m nm=some (.ref C)) (pa:P a) (hP:∀b,s.heap.get? b=none->P b)
  (k:∀h',Lv P (λb=>b∈(e0::dX).filterMap (·.frame)) s.heap h'->dD h' P a nm->Q () {s with heap:=h'}):
  wpAny M A (do let fa <- frameOf env;let pl <- entryPlaceOf L A3;let b <- EntryCells.newEntry head fa .none (rawInt L) .none pl;setField (.ref a) 1 b) Q E s:=by
 have ha:a∉(e0::dX).filterMap (·.frame):=λq=>by
  obtain⟨_,o,ho,nr⟩:=hl.mem q;rw[he]at ho;obtain rfl:=aI ho;exact nr vs hd
 refine Er (show frameOf env=frameOf e0 from by unfold frameOf; exact Er E0 rfl) ?_;refine YY (wpAny_frameOf_fun GF hl (E0.trans hf) fun h₁ C8=>?_);refine YY (wpAny_entryPlaceOf fun pl Ir=>?_);unfold EntryCells.newEntry newFields;refine YY (YV ?_ (Ir.sizeOk5 _ _ _ _ _));have bn:=(C8.2.1 a ha).trans he;generalize hT:({cls:=.type "traceback",dict:=none,data:=.fields ([head,.ref L,.none,rawInt L,.none] ++ (if pl.isEmpty then replicate 6 Value.none else pl)).toArray} :Obj) = oT;refine wpAny_setField (Z2 (h:=h₁) oT bn) hd hsz ?_;have OD:oT.isFreed=false:=by refine Er hT.symm ?_; rfl
 obtain⟨ts,hV,K6⟩:∃ts,oT.data = .fields ts/\3<ts.size:=⟨_,by exact Er hT.symm rfl,by simp only[Zo,ZI,ZH,length_nil];exact(L0 [(if pl.isEmpty=true then replicate (6:Nat) Value.none else pl).length] (.p 1 (.c 3)) (.a (.p 1 (.p 1 (.p 1 (.p 1 (.p 1 (.c 0)))))) .x) rfl)⟩
 have pT:P h₁.objs.size:=hP _ (by refine Er C8.1 ?_;exact A4 _);exact k _ (((Lv.slots C8 λb q=>q).trans (Lv.push oT)).trans (Lv.upd pa (Z2 (h:=h₁) oT bn) (Obj.isFreed_of_fields (Zb hd (·.setIfInBounds 1 (Value.ref h₁.objs.size))))))
  ⟨pa,_,_,C,m,(Heap.get?_update_self (Obj.mapFields (·.setIfInBounds 1 (Value.ref h₁.objs.size))) (Z2 (h:=h₁) oT bn) (Obj.isFreed_of_fields (Zb hd (·.setIfInBounds 1 (Value.ref h₁.objs.size))))),⟨(Obj.cls_mapFields _ _).trans hc.1,(yv _ _).trans hc.2⟩,(Zb hd (·.setIfInBounds 1 (Value.ref h₁.objs.size))),hn,hm,h₁.objs.size,oT,ts,by simp[hsz],(ne_of_gt (ZZ bn)),((Z0 (h₁.push oT) (Obj.mapFields (·.setIfInBounds 1 (Value.ref h₁.objs.size))) (Ne.symm (ne_of_gt (ZZ bn)))).trans (Z1 h₁ OD)),hV,K6,pT⟩
theorem pr (GF:A.frames=some (e0::dX)) (E0:e0.frame=env.frame) (hl:s.heap.FunFrames B (e0::dX)) (hf:env.frame=some L) (X:iv s.heap P a nm) (hP:∀b,s.heap.get? b=none->P b)
  (k:∀h',Lv P (λb=>b∈(e0::dX).filterMap (·.frame)) s.heap h'->dD h' P a nm->Q () {s with heap:=h'}):wpAny M A (noteFrame (.ref a) env) Q E s:=by
 obtain⟨pa,oe,vs,C,m,he,hc,hd,hn,hm,ht⟩:=X;unfold noteFrame;simp only[hf];refine ag λG g=>?_
 rcases ht with h1|⟨T,oT,ts,h1,ne,eT,uL,sz,pT⟩
 .exact g (YY (YX he hd h1 (Er (Y1 (by decide)) (mF GF E0 hl hf he hd (Array.getElem?_eq_some_iff.mp h1).1 hc hn hm pa hP k))))
 .refine g ?_
  refine YY (YX he hd h1 ?_);refine Er (Y0 (show(Value.ref T != Value.none)=true from by simp)) ?_;refine YY (YX eT uL (Array.getElem?_eq_getElem sz) ?_)
  by_cases q:(ts[3]==rawInt L)=true
  .exact Er (Y0 q) (YU (k _ .refl ⟨pa,oe,vs,C,m,he,hc,hd,hn,hm,T,oT,ts,h1,ne,eT,uL,sz,pT⟩))
  refine Er (Y1 q) ?_;refine YY (wpAny_setField eT uL sz ?_);have u:Lv P (λb=>b∈(e0::dX).filterMap (·.frame)) s.heap (s.heap.update T (Obj.mapFields (·.setIfInBounds 3 Value.none))):=Lv.upd pT eT (Obj.isFreed_of_fields (Zb uL (·.setIfInBounds 3 Value.none)));have cz:(s.heap.update T (Obj.mapFields (·.setIfInBounds 3 Value.none))).FunFrames B (e0::dX):=hl.of_keeps λb o hb nr=>⟨o,(Z0 _ _ λq=>by subst q;rw[eT]at hb;obtain rfl:=aI hb;exact nr ts uL).trans hb,rfl⟩
  refine mF (s:= {s with heap:=s.heap.update T (Obj.mapFields (·.setIfInBounds 3 Value.none))}) GF E0 cz hf ((Z0 _ _ ne).trans he) hd (Array.getElem?_eq_some_iff.mp h1).1 hc hn hm pa (λb e=>hP b ?_) λh' x y=>k h' (u.trans x) y
  cases q:s.heap.get? b with
  |none=>rfl
  |some o=>obtain⟨o',e'⟩:=u.live b o q;rw[e]at e';exact ah e'
theorem j9 (fo:Option Addr) (X:dD s.heap P a nm) (k:∀h',Lv P fs s.heap h'->dD h' P a nm->Q () {s with heap:=h'}):wpAny M A (setFlight (.ref a) fo) Q E s:=by
 refine ag λG g=>?_
 obtain⟨pa,oe,vs,C,m,he,hc,hd,hn,hm,T,oT,ts,h1,ne,eT,uL,sz,pT⟩:=X;refine g ?_;unfold setFlight;refine YY (YX he hd h1 ?_);refine Er (Y0 (show(Value.ref T != Value.none)=true from by simp)) ?_;generalize fo.elim Value.none (λf=>rawInt f)=x;exact wpAny_setField eT uL sz (k _ (Lv.upd pT eT (Obj.isFreed_of_fields (Zb uL (·.setIfInBounds 3 x)))) ⟨pa,oe,vs,C,m,(Z0 _ _ ne).trans he,hc,hd,hn,hm,T,_,_,h1,ne,Heap.get?_update_self _ eT (Obj.isFreed_of_fields (Zb uL (·.setIfInBounds 3 x))),Zb uL _,by simpa using sz,pT⟩)
theorem dD.tb (X:dD s.heap P a nm) {Q:Value->Shared->Prop} (k:∀T,Q (.ref T) s):wpAny M A (field (.ref a) 1) Q E s:=by
 refine ag λG g=>?_
 obtain⟨_,oe,vs,_,_,he,_,hd,_,_,T,_,_,h1,_⟩:=X;exact g (YX he hd h1 (k T))
theorem wi {GN:String} {Q:α->Shared->Prop} (X:dD s.heap P a nm) (k:∀h',Lv P (λaa=>False) s.heap h'->dD h' P a nm->E (.ref a) {s with heap:=h'}):wpAny M A (PySem.passOn GN (.ref a) env:Sem α) Q E s:=by
 unfold PySem.passOn;exact YY (X.tb λT=>(Er (Y1 (show ¬(Value.ref T==Value.none)=true from by simp)) (YY (j9 _ X λh' lv X'=>wpAny_throw (k h' lv X')))))
theorem dD.mono {P':Addr->Prop} (X:dD h P a nm) (k:∀b o vs,o.data = .fields vs->h.get? b=some o->h'.get? b=some o) (kp:∀b,P b->P' b):dD h' P' a nm:=by
 refine ag λG g=>?_
 obtain⟨pa,oe,vs,C,m,he,hc,hd,hn,hm,T,oT,ts,h1,ne,eT,uL,sz,pT⟩:=X;exact g (⟨kp _ pa,oe,vs,C,m,k _ _ _ hd he,hc,hd,hn,hm,T,oT,ts,h1,ne,k _ _ _ uL eT,uL,sz,kp _ pT⟩)
theorem mf (GF:A.frames=some (e0::dX)) (E0:e0.frame=env.frame) (hl:s.heap.FunFrames B (e0::dX)) (hf:env.frame=some L) (X:iv s.heap P a nm) (hP:∀b,s.heap.get? b=none->P b)
  (k:∀h',Lv P (λb=>b∈(e0::dX).filterMap (·.frame)) s.heap h'->dD h' P a nm->Q () {s with heap:=h'}):
  wpAny M A (noteFrame (.ref a) env) (λaa s'=>wpAny M A (setFlight (.ref a) none) Q E s') E s:=
 pr GF E0 hl hf X hP λh₁ x Mh=>j9 (s:= {s with heap:=h₁}) none Mh λcy z lw=>k cy (x.trans z) lw
theorem xk (X:dD s.heap P a nm) (k:∀h',Lv P (λaa=>False) s.heap h'->dD h' P a nm->Q () {s with heap:=h'}):wpAny M A (setFlight (.ref a) none) Q E s:=j9 none X k
end
section
variable {y:Lay} {bv bv':List Nat} {own ae:Addr->Option Nat} {Z Z':Addr->Prop} {s s':Shared} {h':Heap} {fr:Fm} {P fs:Addr->Prop}
theorem tZ (I:Inv y own Z s.heap fr) (x:Lv P fs s.heap h') (hp:∀b,P b-> ¬y.wr own b/\ ¬y.F b/\ ¬Z b) (hf:∀b,fs b->y.F b\/b=y.L) (hl:y.loc i=some l):
  (∀v,eG s.heap l v->eG h' l v)/\(nI s.heap l->nI h' l):=by
 have np:¬P l.addr:=λp=>(hp _ p).1 (.inr (.inr ⟨i,l,hl,rfl⟩))
 by_cases q:fs l.addr
 .have hL:l.addr=y.L:=(hf _ q).elim (λf=>absurd f (I.wf.nf i l hl)) id
  cases l with
  |dict b x'=>exact⟨λv ⟨m,hn,hm⟩=>⟨m,ch hn λo=>x.slot b o q np,hm⟩,λ⟨m,hn⟩=>⟨m,ch hn λo=>x.slot b o q np⟩⟩
  |cell b=>exact absurd hL (I.wf.cl i b hl)
  |attr b ns z=>exact absurd hL (I.wf.al i b ns z hl)
 .exact⟨λv r=>r.keeps λo e=>x.keep _ o e np q,λr=>r.keeps λo e=>x.keep _ o e np q⟩
theorem Inv.lv (I:Inv y own Z s.heap fr) (x:Lv P fs s.heap h') (hp:∀b,P b-> ¬y.wr own b/\ ¬y.F b/\ ¬Z b) (hf:∀b,fs b->y.F b\/b=y.L):Inv y own Z h' fr:=by
 have kz:∀a o,Z a->s.heap.get? a=some o->h'.get? a=some o:=λa o z e=>x.keep a o e (λp=>(hp a p).2.2 z) λf=>(hf a f).elim (I.zF a z) λq=>I.zL (q▸z)
 have ko:∀a o,own a≠none->s.heap.get? a=some o->h'.get? a=some o:=λa o z e=>x.keep a o e (λp=>(hp a p).1 (.inl z)) λf=>(hf a f).elim (I.oF a z) λq=>z (q▸I.oL)
 refine⟨I.wf,λa o e=>kz a o (I.zb a o e) (I.base a o e),I.zb,I.zo,I.zl,I.ol,I.zL,I.oL,I.zF,I.oF,λa z=>?_,λa z=>?_,λa f=>?_,λi l hl=>(tZ I x hp hf hl).2 (I.ok i l hl),?_,λp e=>(I.sf p e).mono kz (λaa z=>z) λl v hl r=>(tZ I x hp hf hl).1 v r,λi sl e n=>?_⟩
 .obtain⟨o,e⟩:=I.zlv a z;exact⟨o,kz a o z e⟩
 .obtain⟨o,e⟩:=I.olv a z;exact⟨o,ko a o z e⟩
 .obtain⟨o,Q⟩:=I.flv a f
  have np:¬P a:=λp=>(hp a p).2.1 f
  by_cases q:fs a
  .exact aX (x.slot a o q np Q.1) λsl e'=>(⟨_,e',Q.2⟩)
  .exact⟨o,x.keep a o Q.1 np q,Q.2⟩
 .obtain⟨m,hn⟩:=I.nsL
  have np:¬P y.L:=λp=>(hp _ p).1 (.inr (.inl rfl))
  by_cases q:fs y.L
  .exact⟨m,ch hn λo=>x.slot _ o q np⟩
  .exact⟨m,hn.at' λo e=>x.keep _ o e np q⟩
 .obtain⟨l,v,hl,r,q⟩:=I.at' i sl e n
  exact⟨l,v,hl,(tZ I x hp hf hl).1 v r,q.mono kz (λaa z=>z) (λaa z=>z) λa o z=>ko a o (by refine Er z ?_;exact λn=>by cases n)⟩
theorem Step.lv (S:Step y bv own Z s ae Z' s') (I:Inv y ae Z' s'.heap fr) (x:Lv P fs s'.heap h') (hp:∀b,P b->s.heap.get? b=none/\ ¬y.wr ae b/\ ¬y.F b/\ ¬Z' b) (hf:∀b,fs b->y.F b\/b=y.L) {tk:Nat}:Step y bv own Z s ae Z' {s' with heap:=h',toks:=tk} where
 sh:=by refine fM S.sh λh₁ Mz Q=>?_;subst Q;exact⟨_,_,rfl⟩
 ext:=⟨λa o e nw nf=>x.keep a o (S.ext.keep a o e nw nf) (λp=>by rw[(hp a p).1]at e;exact ah e) λf=>(hf a f).elim nf λq=>nw (.inr (.inl q)),
  λa o e=>let ⟨o',e'⟩:=S.ext.live a o e;x.live a o' e',
  λa o f e=>by
   refine aX (S.ext.fram a o f e) λsl e'=>?_
   have np:¬P a:=λp=>(hp a p).2.2.1 f
   by_cases q:fs a
   .exact aX (x.slot a _ q np e') λqU Bm=>(⟨qU,Bm⟩)
   .exact⟨sl,x.keep a _ e' np q⟩⟩
 zm:=S.zm
 zn:=S.zn
 on:=S.on
 bind:=λi l v n hl r=>(tZ I x (λb p=>(hp b p).2) hf hl).1 v (S.bind i l v n hl r)
theorem iG (I:Inv y own Z s.heap fr) (st:BR (λa=>y.F a\/a=y.L) A):∃l,A.frames=some l/\s.heap.FunFrames B l/\ ∀b∈l.filterMap (·.frame),y.F b\/b=y.L:=by
 obtain⟨l,hl,hk⟩:=st;refine⟨l,hl,?_,λb hb=>?_⟩
 .clear hl
  induction l with
  |nil=>trivial
  |cons e l ih=>
   obtain⟨h1,L,j⟩:=hk e (.head _);have h2:=j.1;have h3:=j.2;refine⟨h1,?_,ih λe he=>hk e (.tail _ he)⟩;have nz:¬Z L:=λz=>h3.elim (I.zF L z) λq=>I.zL (q▸z)
   have nb:B.get? L=none:=by
    cases q:B.get? L with
    |none=>rfl
    |some o=>exact absurd (I.zb L o q) nz
   rcases h3 with h3|h3
   .exact aX (I.flv L h3) λo u=>(⟨L,o,h2,nb,u.1,u.2⟩)
   .refine lM I.nsL λm o aa aA Q=>?_;have ho:=Q.1;have hd:=Q.2.1;exact⟨L,o,h2,nb,h3▸ho,λvs q=>by have q:=hd▸q;cases q⟩
 .refine aX (mem_filterMap.mp hb) λe J=>?_;have he:=J.1;have h1:=J.2
  obtain⟨_,L,U⟩:=hk e he;rw[U.1]at h1;exact Er (aI h1).symm U.2
inductive yY {β:Type} (y:Lay) (bv:List Nat) (own:Addr->Option Nat) (Z:Addr->Prop) (s:Shared) (out:Except Str β×Fm) (e:Value) (s':Shared):Prop
 |mk (nm:Str) (a:Addr) (ae:Addr->Option Nat) (Z':Addr->Prop):out.1 = .error nm->e = .ref a->Inv y ae Z' s'.heap out.2->Step y bv own Z s ae Z' s'->dD s'.heap (λb=>s.heap.get? b=none/\ ¬y.wr ae b/\ ¬y.F b/\ ¬Z' b) a nm->yY y bv own Z s out e s'
theorem aV.note {env:Env} {e:Value} {out:Except Str β×Fm} {R:Value->Shared->Prop} (x:aV y bv own Z s out e s') (en:aN A sc env y) (k:∀dS,yY y bv own Z s out e dS->R e dS):notedBy (model prog w) A env R e s':=by
 obtain⟨nm,a,ae,Z',q,rfl,I,S,X⟩:=x;refine ag λG g=>?_
 refine fM en.top λe0 dX Q=>?_
 obtain⟨l,cz,z⟩:=iG I en.stk;rw[Q.1]at cz;obtain rfl:=aI cz;exact g (pr Q.1 Q.2 z.1 en.frame X (λb e=>⟨S.old b e,I.fresh e⟩) λcy lv lw=>k _ ⟨nm,a,ae,Z',q,rfl,I.lv lv (λb p=>p.2) z.2,S.lv I lv (λb p=>p) z.2,lw⟩)
theorem aV.clr {e:Value} {f:Fm} {l:List Nat} (x:aV y bv own Z s ((.error nm:Except Str β),f) e s'):aV y bv own Z s ((.error nm:Except Str γ),Mv.clr f l) e s':=by
 refine ag λG g=>?_
 obtain⟨Ai,a,ae,Z',q,e1,I,S,X⟩:=x;cases q;exact g (⟨nm,a,ae,Z',rfl,e1,I.clr l,S,X⟩)
theorem kM {env:Env} {e:Value} {out:Except Str β×Fm} (en:aN A sc env y) (k:∀e s',aV y bv own Z s out e s'->E e s') (x:aV y bv own Z s out e s'):
  notedBy (model prog w) A env (λe dS=>cameBackBy (model prog w) A env E e dS) e s':=
 x.note en λaG p=>by
  obtain⟨nm,a,ae,Z',q,rfl,aF,aY,lw⟩:=p;exact YY (dD.tb lw λT=>(Er (Y1 (show ¬(Value.ref T==Value.none)=true from by simp)) (j9 (fs:=λaa=>False) _ lw λeK pE yR=>k _ _ ⟨nm,a,ae,Z',q,rfl,aF.lv pE (λb p=>p.2) λaa f=>f.elim,aY.lv aF pE (λb p=>p) λaa f=>f.elim,yR.is⟩)))
end
section
variable {A:Around} {c:cR} {n:Nat} {env:Env} {sc:Sc} {y:Lay}
 {bv bv':List Nat} {own ac:Addr->Option Nat} {Z aw:Addr->Prop} {s s₁:Shared} {fr aq:Fm}
def JQ (y:Lay) (bv:List Nat) (own:Addr->Option Nat) (Z:Addr->Prop) (s:Shared) (out:Except Str Bool×Fm) (b:Bool) (s':Shared):Prop:=
 ∃ae Z',out.1 = .ok b/\Inv y ae Z' s'.heap out.2/\Step y bv own Z s ae Z' s'
theorem oQ {Q:Bool->Shared->Prop} :∀ {eO:List Expr},Q false s->
  wpAny (model prog w) A (forIn eO false λc r=>if r=true then do let ok <- isTrue c env (eval c env);pure (ForInStep.yield ok) else pure (ForInStep.yield r)) Q E s:=by
 intro es h
 induction es generalizing h with
 |nil=>exact YU h
 |cons e es ih=>
  simp only[forIn_cons,false_eq_true,if_false];exact YY (YU (ih h))
theorem jS:∀ {eO:List Expr} {ay:List Ex},F2 (λe x=>ST A c y (isTrue e env (eval e env)) x) eO ay-> ∀(own:Addr->Option Nat) (Z:Addr->Prop) (s:Shared) (fr:Fm) (out:Except Str Bool×Fm),dm c ay fr=some out->Inv y own Z s.heap fr->
  wpAny (model prog w) A (forIn eO true λc r=>if r=true then do let ok <- isTrue c env (eval c env);pure (ForInStep.yield ok) else pure (ForInStep.yield r)) (JQ y (bf ay) own Z s out) (aV y (bf ay) own Z s out) s:=by
 intro es xs F
 induction es generalizing xs with
 |nil=>
  cases xs with
  |nil=>
    intro own Z s fr out h I;exact Er (aI h).symm (YU ⟨own,Z,rfl,I,.refl⟩)
  |cons x1 x2=>exact F.elim
 |cons e es ih=>
  cases xs with
  |nil=>exact F.elim
  |cons x xs=>
    intro own Z s fr out h I;rw[i8]at h;simp only[forIn_cons,if_true];refine YY (YY (kA (bv:=aS x) (bv':=aS x++bf xs) h .refl bI (λr ax h=>?_) (λo e hd=>F.1 own Z s fr o e hd I) λr d aq ac aw s₁ h hd ai bb S=>?_))
    .split at h
     .exact ah h
     .exact⟨_,by assumption⟩
    .rw[hd]at h
     dsimp only at h;refine YU ?_;cases ht:tD d with
     |true=>
      rw[ht,Y0 rfl]at h;refine YW (ih F.2.2 ac aw s₁ aq out h ai) (λb s' p=>?_) λe s' p=>p.sub cw S
      exact fM p λae Z' p=>(⟨ae,Z',p.1,p.2.1,S.trans (p.2.2.sub cw)⟩)
     |false=>
      rw[ht,Y1 Z7]at h;exact Er (aI h).symm (oQ ⟨ac,aw,rfl,ai,S⟩)
theorem oy:∀ {is:List Nat} {fr:Fm} {j:Nat},(∀sl,fr[j]? = some sl->sl = .no)\/j∈is-> ∀sl,(clr fr is)[j]? = some sl->sl = .no
 |[],fr,j,h=>h.elim id λq=>nomatch q
 |i::is,fr,j,h=>oy (is:=is) (fr:=fr.set i .no) (by
  rcases h with h|h
  .exact .inl λsl e=>(dQ e).elim (λq=>q.2) λq=>h sl q.2
  .rcases mem_cons.mp h with rfl|h
   .exact .inl λsl e=>(dQ e).elim (λq=>q.2) λq=>absurd rfl q.1
   .exact .inr h)
theorem CG.vars {vs:List Str} (h:CG i g vs t) (h1:i<=j) (h2:j<i+vs.length):j∈aW t:=by
 cases h with
 |one=>exact mem_singleton.mpr (Zk (Nat.le_of_lt_succ h2) h1)
theorem r4 {nk:Expr} {eO:List Expr} {it acc:Value} {env:Env} {R:Result->Shared->Prop} (I:Nat->Shared->Prop)
  (KA:∀n s,I n s->wpAny (model prog w) A (pyNext it) (λr s₁=>match r with
   |none=>R (.ok .next) s₁
   |some v=>wpAny (model prog w) A (letOwnedTupleGo nk it v) (λaa s₁=>wpAny (model prog w) A (assign nk env v) (λaa aG=>
     wpAny (model prog w) A (forIn eO true λc r=>if r=true then do let ok <- isTrue c env (eval c env);pure (ForInStep.yield ok) else pure (ForInStep.yield r)) (λok iO=>
      if ok=true then wpAny (model prog w) A (eval cq env) (λx lG=>
       wpAny (model prog w) A (call (.builtin "list.append") [acc,x]) (fun aa qP=> ∃m,m < n∧I m qP) (notedBy (model prog w) A env fun e s'=>R (.error e) s') lG) (notedBy (model prog w) A env fun e s'=>R (.error e) s') iO
      else ∃m,m<n/\I m iO) (notedBy (model prog w) A env λe s'=>R (.error e) s') aG) (notedBy (model prog w) A env λe s'=>R (.error e) s') s₁) (notedBy (model prog w) A env λe s'=>R (.error e) s') s₁) (notedBy (model prog w) A env λe s'=>R (.error e) s') s)
  (n:Nat) (h:I n s):codeAny (model prog w) A (.compLoop (.ListComp cq [⟨nk,iter,eO,0⟩] scope pos) 0 it acc env) R s:=by
 refine codeAny_loop rfl I (λn s hI=>?_) n h;show wpAny _ A ((compTurn (.ListComp cq [⟨nk,iter,eO,0⟩] scope pos) 0 it acc env).onRaise (λx=>do noteFrame x env;theTreesLotGoes x)) _ _ s
 refine wpAny_noted ?_;rw[compTurn_list];refine YY (wpAny_standAt (YY (YW (KA n s hI) (λr s₁ h₁=>?_) λaa aA h'=>h')));cases r with
 |none=>exact YU h₁
 |some v=>
  refine YY (YW h₁ (λaa aG h₁=>YY (YW h₁ (λaa aG cy=>YY (YW cy (λok iO eK=>?_) λaa aA h'=>h')) λaa aA h'=>h')) λaa aA h'=>h');cases ok with
  |false=>exact YU ⟨rfl,eK⟩
  |true=>exact YY (YY (YW eK (λx lG EK=>YY (YW EK (λaa qP jZ=>YU (YU ⟨rfl,jZ⟩)) λaa aA h'=>h')) λaa aA h'=>h'))
theorem FD {vs:List Str} {d:D} {fr ax:Fm} {Q:Unit->Shared->Prop} (cg:CG i g vs t) (en:aN A sc env y) (hh:A.handled=none)
  (hv:∀k v,vs[k]? = some v->sc.vars.lookup v=some (i+k)/\env.kindOf v=some .local/\y.loc (i+k)=some (.dict C v))
  (he:asgT c.pin fr t (.fz d)=some ax) (I:Inv y own Z s.heap fr) (R:b5 s.heap Z v d)
  (K:∀h' tk,Inv y own Z h' ax->Step y (aW t) own Z s own Z {s with heap:=h',toks:=tk}->Q () {s with heap:=h',toks:=tk}):wpAny (model prog w) A (assign g env v) Q E s:=by
 cases cg with
 |one=>
  obtain⟨h1,z⟩:=hv 0 _ rfl;obtain⟨_,rfl⟩:=K2 he;exact wpAny_assign_Name (fA en h1 (by refine Er z.1 ?_;intro q;cases q) z.2 I λh' tk P=>K h' tk (P.fz I z.2 R) (P.step z.2 I))
inductive JX (y:Lay) (bv:List Nat) (own:Addr->Option Nat) (Z:Addr->Prop) (s:Shared) (items:List D) (fp wr:List Addr) (P:Nat->Value->Prop) (St:Nat->Heap->Prop) (Da:Addr) (c:cR) (x:Ex) (t:Tgt) (ay:List Ex) (out:Except Str Rv×Fm) (m:Nat) (s':Shared):Prop
 |mk (k:Nat) (ae:Addr->Option Nat) (Z':Addr->Prop) (cT:Fm) (vs:List Value) (u1:List D):m=items.length+1-k->k<=items.length->Inv y ae Z' s'.heap cT->Step y bv own Z s ae Z' s'->
   hW y items fp wr P St s.heap ae Z' s'.heap k->dC y ae Z' s.heap s'.heap Da->s'.heap.PlainList Da vs.toArray->am s'.heap Z' vs u1->u1.length<=k->
   tS (aW t) (bH c cT x t ay (items.drop k)) (λKl fr=>some (.ok (.own (.list (u1++Kl))),fr))=some out->JX y bv own Z s items fp wr P St Da c x t ay out m s'
set_option tactic.hygienic true in
theorem vh {zi:List Str} {eO:List Expr} {x:Ex} {It Da:Addr} {items:List D} {fp wr:List Addr} {P:Nat->Value->Prop} {St:Nat->Heap->Prop} {R:Result->Shared->Prop}
  (cg:CG i g zi t) (Om:A.handled=none) (en:aN A sc env y) (hv:∀k v,zi[k]? = some v->sc.vars.lookup v=some (i+k)/\env.kindOf v=some .local/\y.loc (i+k)=some (.dict C v)) (hX:SE A c y (eval cq env) x) (hC:F2 (λe x=>ST A c y (isTrue e env (eval e env)) x) eO ay)
  (Md:∀j∈aW t,j∈bv) (Kn:∀j∈aS x,j∈bv) (Ko:∀j∈bf ay,j∈bv) (W:Wk A It items fp wr P St) (da:items.length<=Sz) (uJ:Da∉fp) (sD:s.heap.get? Da=none)
  (ai:Inv y ac aw s₁.heap aq) (bb:Step y bv own Z s ac aw s₁) (CU:hW y items fp wr P St s.heap ac aw s₁.heap 0) (C1:dC y ac aw s.heap s₁.heap Da) (xK:s₁.heap.PlainList Da ([]:List Value).toArray)
  (h:tS (aW t) (bH c aq x t ay items) (λds fr=>some (.ok (.own (.list ds)),fr))=some out)
  (KE:∀nm f e s',out=(.error nm,clr f (aW t))->yY y bv own Z s out e s'->R (.error e) s')
  (K:∀(s':Shared) (ae:Addr->Option Nat) (Z':Addr->Prop) (ds:List D) (cT:Fm),out=(.ok (.own (.list ds)),clr cT (aW t))->Inv y ae Z' s'.heap cT->Step y bv own Z s ae Z' s'->dC y ae Z' s.heap s'.heap Da->bT s'.heap Z' Da (.list ds)->R (.ok .next) s'):
  codeAny (model prog w) A (.compLoop (.ListComp cq [⟨g,iter,eO,0⟩] scope pos) 0 (.ref It) (.ref Da) env) R s₁:=by
 refine EX (JX y bv own Z s items fp wr P St Da c x t ay out) λJ je ji=>?_
 refine r4 J ?_ (items.length+1)
  (ji _ _ ⟨0,ac,aw,aq,[],[],rfl,Zc _,ai,bb,CU,C1,xK,.nil,Zc _,by refine Er drop_zero ?_;exact h⟩)
 clear h ai bb CU C1 xK;intro m s' jq;obtain⟨k,ae,Z',cT,vs,u1,rfl,eF,I',S',CV,Mn,Ir,RA,Cs,hh⟩:=je _ _ jq;clear jq je
 by_cases th:k<items.length
 .clear K
  have hd:=ZK th;rw[List.drop_eq_getElem_cons th]at hh;generalize items[k]=d at hd hh;rw[lq]at hh;refine l6 W CV I' S' hd (λaa aA p=>p) λval qP yQ BV tX tW BQ sw B9 xm=>?_
  have kD:∀o,s'.heap.get? Da=some o->qP.heap.get? Da=some o:=λo e=>xm Da o (λhm=>uJ (W.sub Da hm)) e
  have C0:=B9 Da Mn λhm=>uJ (W.sub Da hm)
  have xD:=Ir.at kD;have tf:vs.length<=items.length:=by exact Er RA.length (Ln [u1.length,items.length,k] (.w .x .y) [Gl .z .y,Gl .x .z] rfl eF Cs)
  have CY:=RA.mono (λa o z=>xm a o λq=>(CV.wr a q).2.2.2.1 z) BV;clear kD Ir Mn RA S' CV I' xm B9 BV;have qC:=BQ.clr (aW t);generalize clr cT (aW t)=fr₅ at hh qC
  split at hh
  .exact ah hh
  .rename_i tu xE
   refine FD cg en Om hv xE qC tX λIk tk f9 JL=>?_
   have qy:=sw.trans (JL.sub Md);have CP:=tW.step W qC JL;obtain⟨CZ,Cd⟩:=JL.loose C0;have xC:=xD.at Cd;have CX:=JL.repAll qC CY;clear JL Cd xD CY C0 tW sw tX qC xE
   rcases IK:dm c ay tu with _|⟨e7|b,fr₇⟩
   .have hh:=IK▸hh;exact ah hh
   .rw[IK]at hh
    obtain rfl:=aI hh;exact YW (jS hC ae yQ {qP with heap:=Ik,toks:=tk} _ _ IK f9) (λb' qO p=>by refine fM p λaa aA p=>?_;exact iX p.1) λaa aA x=>(x.up (γ:=Rv) Ko qy).clr.note en λdS p=>KE _ _ _ _ rfl p
   .rw[IK]at hh
    refine YW (jS hC ae yQ {qP with heap:=Ik,toks:=tk} _ _ IK f9) (λb' qO p=>?_) λaa aA x=>x.elim
    refine fM p λfR oD p=>?_;have q:=p.1;have jL:=p.2.1;have CW:=p.2.2
    refine Er (iE q).symm ?_;have lx:=qy.trans (CW.sub Ko);have yS:=CP.step W f9 CW;obtain⟨y0,Cc⟩:=CW.loose CZ;have rC:=xC.at Cc;have yX:=CW.repAll f9 CX;clear CW Cc xC CX CZ CP qy f9;rw[fq]at hh;cases b with
    |false=>
     rw[Y1 Z7]at hh ⊢;exact⟨items.length+1-(k+1),km eF,ji _ _ ⟨k+1,fR,oD,fr₇,vs,u1,rfl,th,jL,lx,yS,y0,rC,yX,le_succ_of_le Cs,hh⟩⟩
    |true=>
     rw[Y0 rfl]at hh ⊢
     rcases IF:ev c x fr₇ with _|⟨e8|r,fr₈⟩
     .rw[IF]at hh;exact ah hh
     .rw[IF]at hh
      obtain rfl:=aI hh;exact YW (hX fR oD qO _ _ IF jL) (λval zw p=>by obtain⟨_,_,_,q,_⟩:=p;exact iX q) λaa aA x=>(x.up (γ:=Rv) Kn lx).clr.note en λdS p=>KE _ _ _ _ rfl p
     .have hh:=IF▸hh;rw[fq]at hh
      refine YW (hX fR oD qO _ _ IF jL) (λval zw p=>?_) λaa aA x=>x.elim
      refine ag λG g1=>?_
      obtain⟨r',wj,OV,q,JU,Nu,JM⟩:=p;obtain rfl:=iE q;cases hr:bQ r with
      |none=>refine g1 ?_;rw[hr]at hh;exact ah hh
      |some d'=>
       refine g1 ?_;have hh:=hr▸hh;obtain⟨F1,Mo,JK,Ml⟩:=JM.freeze JU Nu hr;have Mi:=lx.trans (JK.sub Kn);have JJ:=yS.step W jL JK;obtain⟨t0,Cb⟩:=JK.loose y0;have EQ:=rC.at Cb;have JO:=JK.repAll jL yX;clear JK Cb rC yX y0 yS lx jL JM JU Nu;refine wpAny_list_append_plain (hsz:=by refine Er Zo (Er b6.symm ?_);exact(Ln [vs.length,items.length] (.w .x (.c 16777216)) [Gl .y (.c 16777216),Gl .x .y] rfl da tf)) EQ λtd pO xB=>?_
       have kp:∀b o, ¬b=Da->zw.heap.get? b=some o->td.get? b=some o:=λb o q e=>xB.extBut b o q e
       have tm:∀b,b=Da-> ¬y.wr wj b/\ ¬y.F b/\ ¬F1 b:=λb q=>by subst q;exact⟨t0.2.1,t0.2.2.1,t0.2.2.2.1⟩
       have kz:∀a o,F1 a->zw.heap.get? a=some o->td.get? a=some o:=λa o z e=>kp a o (λq=>(tm a q).2.2 z) e
       refine⟨items.length+1-(k+1),km eF,ji _ _ ⟨k+1,wj,F1,fr₈,vs++[val],u1++[d'],rfl,th,Mo.other tm kp,Mi.other (tk:=zw.toks) (X:=λb=>b=Da) (λb q=>⟨q▸sD,(tm b q).1⟩) kp,
        JJ.other W (X:=λb=>b=Da) (λb q=>⟨(tm b q).2.2,q▸uJ⟩) kp,t0.other (let ⟨n,e⟩:=pO;⟨_,e⟩),by simpa using pO,(JO.mono kz λaa z=>z).append (.cons (Ml.mono kz λaa z=>z) .nil),by refine Er ZI ?_;simp;exact Cs,?_⟩⟩
       rcases LO:bH c fr₈ x t ay (items.drop (k+1)) with _|⟨_|Kl,f⟩
       .have hh:=LO▸hh;exact ah hh
       .rw[LO]at hh;exact hh
       .rw[LO]at hh
        refine Eq.trans ?_ hh;show some ((Except.ok (Rv.own (.list (u1++[d']++Kl))):Except Str Rv),f)=some (Except.ok (Rv.own (.list (u1++d'::Kl))),f)
        rw[ZP];rfl
 .have Lx:k=items.length:=Zk eF (Nat.not_lt.mp th)
  subst Lx;rw[List.drop_length,cP]at hh;have uG:=(Y9 hh).symm;rw[ZO]at uG;refine l7 W CV I' S' λdS y1 GK kp aa=>?_
  have kD:∀o,s'.heap.get? Da=some o->dS.heap.get? Da=some o:=λo e=>kp Da o (λhm=>uJ (W.sub Da hm)) e
  have kz:∀a o,Z' a->s'.heap.get? a=some o->dS.heap.get? a=some o:=λa o z=>kp a o λq=>(CV.wr a q).2.2.2.1 z
  obtain⟨n,e⟩:=Ir.at kD;exact K dS ae Z' u1 cT uG y1 GK (Mn.other (h':=dS.heap) ⟨_,e⟩) (.list e (by refine Er RA.length ?_;exact(Ln [u1.length,items.length] (.w .x (.c 16777216)) [Gl .y (.c 16777216),Gl .x .y] rfl da Cs)) (RA.mono kz λaa z=>z))
set_option tactic.hygienic true in
theorem lm {vs:List Str} {eO:List Expr} {it:iN} {x:Ex} {use:Option (Value->Sem Unit)} {Q:Value->Shared->Prop} 
  (cg:CG i g vs t) (hh:c.hd=false->A.handled=none) (en:aN A sc env y) (ok:gN scope sc vs) (hi:sc.hi<=i) (hI:SI A c y (eval iter env) it b8) (xF:∀v,foldedSetIterable iter env v=pure v)
  (hX:∀env y,aN A (bJ scope sc vs i) env y->SE A c y (eval cq env) x) (hC:∀env y,aN A (bJ scope sc vs i) env y->F2 (λe x=>ST A c y (isTrue e env (eval e env)) x) eO ay)
  (h:ev c (.comp x t it b8 ay) fr=some out) (I:Inv y own Z s.heap fr)
  (hE:∀e s',aV y (aS (.comp x t it b8 ay)) own Z s out e s'->E e s')
  (K:∀(Da C:Addr) (s':Shared) (ae:Addr->Option Nat) (Z':Addr->Prop) (ds:List D) (cT:Fm) (m:Str->Option Value),out=(.ok (.own (.list ds)),cT)->Inv y ae Z' s'.heap cT->Step y (aS (.comp x t it b8 ay)) own Z s ae Z' s'->
   d6 y ae Z' s.heap s'.heap (.own (.list ds)) (.ref Da)->dC y ae Z' s.heap s'.heap C->s'.heap.Ns C m->Da≠C->compPost (model prog w) A E use Q (.ref Da) C (.ok .next) s'):
  wpAny (model prog w) A (comprehension (.ListComp cq [⟨g,iter,eO,0⟩] scope pos) scope env gn (newList []) false (eval iter env) use) Q E s:=by
 have Ch:∀j l,y.loc j=some l->j<i:=λj l e=>Ze (en.hi j l e) hi
 rw[tO]at h;cases fL:c.hd with
 |true=>rw[fL]at h;exact ah h
 |false=>
 rw[fL]at h;have h:=(Y1 Z7)▸h;have Mb:∀j∈bf b8,j∈aS (.comp x t it b8 ay):=λj hj=>Zx _ (Zw _ hj)
 have Kn:∀j∈aS x,j∈aS (.comp x t it b8 ay):=λj hj=>Zx _ (Zx _ (Zw _ hj))
 have Ko:∀j∈bf ay,j∈aS (.comp x t it b8 ay):=λj hj=>Zw _ hj
 have Md:∀j∈aW t,j∈aS (.comp x t it b8 ay):=λj hj=>Zx _ (Zx _ (Zx _ hj))
 generalize Pc:aS (.comp x t it b8 ay)=bv at *;have Bh:=λC=>(yx (C:=C) en ok hi)
 refine wpAny_comprehension_free (use:=use) rfl xF (Bh 0).1 ok.kind ok.names ?_
 rcases be h with⟨e,f,hm,rfl⟩|⟨rs,aq,hm,h⟩
 .refine YW (hI own Z s fr _ hm (λrs q=>by exact iX q) fL I) (λx s₁ p=>YW p (λGD aG p=>?_) λaa aA x=>hE _ _ (x.up Mb .refl)) λaa aA x=>hE _ _ (x.up Mb .refl)
  obtain⟨_,_,_,_,_,_,_,_,_,_,q,_⟩:=p;exact iX q
 .split at h
  .exact ah h
  .rename_i ds gA
   split at h
   .exact ah h
   .rename_i items k9
    refine YW (hI own Z s fr _ hm (λrs q=>by refine Er (iE q).symm ?_;exact⟨ds,items,gA,k9⟩) fL I) (λxv s₁ p=>YW p (λGD aG p=>?_) λaa aA x=>x.elim) λaa aA x=>x.elim
    obtain⟨JZ,No,EH,ac,aw,It,fp,wr,P,St,q,xI,pQ,da,rfl,aF,aY,W,WA⟩:=p;obtain rfl:=iE q;rw[gA]at xI;obtain rfl:=aI xI;rw[k9]at pQ;obtain rfl:=aI pQ;dsimp only at aF;have aY:=aY.sub Mb
    -- the list and the block
    refine YV (wpAny_newFunctionEnv ok.cell (by intro z hz; cases hz) (fun h₁ rE nY=>?_) ok.kind);dsimp only at rE nY ⊢;generalize LQ:aG.heap.push {cls:=.type "list",dict:=none,data:=.seq ([] :List Value).toArray} = H2 at rE nY ⊢
    let Da:=aG.heap.objs.size
    let C:=H2.objs.size
    have hsz:H2.objs.size=aG.heap.objs.size+1:=by refine Er LQ.symm ?_;rw[Heap.size_push]
    have Cu:Da≠C:=by show aG.heap.objs.size≠H2.objs.size;exact(λHF=>(Lf [H2.objs.size,aG.heap.objs.size] [Gf .x (.p 1 .y),Gf .y .x] rfl hsz HF))
    have nC:aG.heap.get? C=none:=by
     cases e:aG.heap.get? C with
     |none=>rfl
     |some o=>have:=ZZ e;exact absurd this (by show ¬H2.objs.size<_;exact(λHE=>(Lf [H2.objs.size,aG.heap.objs.size] [Gf .x (.p 1 .y),Gl (.p 1 .x) .y] rfl hsz HE)))
    have nD:aG.heap.get? Da=none:=A4 _;have old:∀b o,aG.heap.get? b=some o->h₁.get? b=some o:=λb o e=>by
     exact nY.extBut b o (ne_of_lt (Nat.lt_trans (ZZ e) (by refine Er hsz ?_;exact lt_succ_self _))) (Z2 _ (LQ▸Z2 _ e))
    have xK:h₁.PlainList Da ([]:List Value).toArray:=⟨_,nY.extBut _ _ Cu (Z2 _ (LQ▸Z1 _ rfl))⟩
    have sC:=aY.old _ nC;have sD:=aY.old _ nD;have uJ:Da∉fp:=λhm=>by obtain⟨o,e⟩:=W.lv 0 _ WA.st Da hm;rw[nD]at e;exact ah e
    -- the BZ
    let lG:Shared:= {aG with heap:=h₁,toks:=aG.toks+([]:List (Str×Value)).length}
    have lp:∀ {b:Addr},dC y ac aw s.heap aG.heap b->dC (y.puts C i vs) ac aw s.heap lG.heap b:=fun {b} l=>by
     obtain⟨l1,l2,l3,l4,o,l5⟩:=l;exact⟨l1,λq=>(qX q).elim l2 (λq=>by rw[q,nC]at l5;exact ah l5),l3,l4,o,old b o l5⟩
    have CR:hW (y.puts C i vs) items fp wr P St s.heap ac aw lG.heap 0:=
     ⟨W.frame 0 _ _ WA.st λb aa o e=>old b o e,λb hb=>(WA.fp b hb).imp id lp,λb hb=>lp (WA.wr b hb),λj v hj p=>let ⟨d,e,r⟩:=WA.it j v hj p;⟨d,e,r.mono (λa o aa=>old a o) λaa z=>z⟩⟩
    have LD:dC (y.puts C i vs) ac aw s.heap lG.heap Da:=⟨sD,λq=>(qX q).elim (aF.fresh nD).1 λq=>Cu q,(aF.fresh nD).2.1,(aF.fresh nD).2.2,let ⟨n,e⟩:=xK;⟨_,e⟩⟩
    have HS:codeAny (model prog w) A (.compLoop (.ListComp cq [⟨g,iter,eO,0⟩] scope pos) 0 (.ref It) (.ref Da) (compEnvC scope (vj env scope.names []) C env)) (compPost (model prog w) A E use Q (.ref Da) C) lG:=by
     have CL:∃v,vs[0]? = some v:=by cases cg<;>exact⟨_,rfl⟩
     refine aX CL λv0 CL=>?_
     have CL:=nF (y:=y) (C:=C) (i:=i) CL;have LC:∀ {ae:Addr->Option Nat} {Z':Addr->Prop} {dS:Shared} {cT:Fm},Inv (y.puts C i vs) ae Z' dS.heap cT->dC y ae Z' s.heap dS.heap C/\ ∃m,dS.heap.Ns C m:=λy1=>by
      refine aX (y1.ok _ _ CL) λm hm=>?_
      refine⟨⟨sC,λq=>?_,y1.wf.nf _ _ CL,y1.zl _ _ CL,let ⟨o,_,_,e,_⟩:=hm;⟨o,e⟩⟩,m,hm⟩
      rcases q with q|q|⟨j,l,hl,q⟩
      .exact q (y1.ol _ _ CL)
      .refine lM aF.nsL λm o aa aA u=>?_;have e:=u.1;rw[<- q,nC]at e;exact ah e
      .obtain⟨o,e⟩:=(aF.ok j l hl).live;rw[q,nC]at e;exact ah e
     refine vh (C:=C) cg (hh fL) ((Bh C).2) (λk v e=>⟨pF (t5 ok.vnd e),lookup_relabel_local (ok.loc v (Zs e)),nF e⟩) (hX _ _ ((Bh C).2)) (hC _ _ ((Bh C).2)) Md Kn Ko W da uJ sD ((aF.grow old).put Ch ok.vnd (aF.fresh nC).1 (aF.fresh nC).2.1 (aF.fresh nC).2.2 rE) ((aY.trans (.grow old)).put Ch sC) CR LD xK h (λnm f e dS uG p=>?_) λdS ae Z' u1 cT uG y1 GK F9 OA=>?_
     .obtain⟨Ai,a,ae,Z',q,rfl,I',S',X⟩:=p
      obtain⟨JS,m,hm⟩:=LC I';refine⟨m,hm,λh' sb OU aa=>?_⟩;have tm:∀b,b=C-> ¬y.wr ae b/\ ¬y.F b/\ ¬Z' b:=λb q=>by subst q;exact⟨JS.2.1,JS.2.2.1,JS.2.2.2.1⟩
      have kp:∀b o, ¬b=C->dS.heap.get? b=some o->h'.get? b=some o:=λb o q e=>sb.extBut b o q e
      have I1:Inv y ae Z' h' out.2:=(I'.unput I.wf Ch en.slo λj h1 h2=>by refine Er uG ?_;exact oy (.inr (cg.vars h1 h2))).other tm kp;have S1:Step y bv own Z s ae Z' {dS with heap:=h'}:=(S'.unput Ch sC).other (tk:=dS.toks) (X:=λb=>b=C) (λb q=>⟨q▸sC,(tm b q).1⟩) kp;have X1:dD h' (λb=>s.heap.get? b=none/\ ¬y.wr ae b/\ ¬y.F b/\ ¬Z' b) a Ai:=X.mono (λb o vs hd e=>kp b o (λq=>by refine iM hm λo' aa aA hm=>?_;have e':=hm.1;have c5:=hm.2.1;rw[q,e']at e;obtain rfl:=aI e;have hd:=c5▸hd;cases hd) e) λb h=>⟨h.1,λq=>h.2.1 (qK Ch q),h.2.2.1,h.2.2.2⟩
      exact wi (s:= {dS with heap:=h'}) X1 λeK lv yR=>hE _ _ ⟨Ai,a,ae,Z',q,rfl,Inv.lv (s:= {dS with heap:=h'}) I1 lv (λb p=>p.2) λaa f=>f.elim,S1.lv I1 lv (λb p=>p) λaa f=>f.elim,yR.is⟩
     obtain⟨JS,m,hm⟩:=LC y1;exact K Da C dS ae Z' u1 _ m uG ((y1.clr (aW t)).unput I.wf Ch en.slo λj h1 h2=>oy (.inr (cg.vars h1 h2))) (GK.unput Ch sC) ⟨Da,rfl,sD,λq=>F9.2.1 (qK Ch q),F9.2.2.1,F9.2.2.2.1,OA⟩ JS hm Cu
    exact codeAny_compStart_list HS (W.self 0 _ _ _ CR.st HS)
theorem zU {vs:List Str} {eO:List Expr} {it:iN} {x:Ex}
  (cg:CG i g vs t) (hh:c.hd=false->A.handled=none) (en:aN A sc env y) (ok:gN scope sc vs) (hi:sc.hi<=i) (hI:SI A c y (eval iter env) it b8) (xF:∀v,foldedSetIterable iter env v=pure v)
  (hX:∀env y,aN A (bJ scope sc vs i) env y->SE A c y (eval cq env) x) (hC:∀env y,aN A (bJ scope sc vs i) env y->F2 (λe x=>ST A c y (isTrue e env (eval e env)) x) eO ay):
  SE A c y (eval (.ListComp cq [⟨g,iter,eO,0⟩] scope pos) env) (.comp x t it b8 ay):=by
 intro own Z s fr out h I;rw[eval_ListComp];refine lm (use:=none) cg hh en ok hi hI xF hX hC h I (λaa aA x=>x) λD C s' ae Z' ds cT m ho I' S' R' LC hm Cu=>?_
 subst ho;refine⟨m,hm,λh' hs=>?_⟩;refine ag λG g1=>?_
 obtain⟨a,q,R'⟩:=R';cases q;have kp:∀b o, ¬b=C->s'.heap.get? b=some o->h'.get? b=some o:=λb o q e=>hs.extBut b o q e
 have tm:∀b,b=C-> ¬y.wr ae b/\ ¬y.F b/\ ¬Z' b:=λb q=>by subst q;exact⟨LC.2.1,LC.2.2.1,LC.2.2.2.1⟩
 exact g1 (⟨_,ae,Z',rfl,I'.other tm kp,S'.other (X:=λb=>b=C) (λb q=>⟨q▸LC.1,(tm b q).1⟩) kp,_,rfl,R'.1,R'.2.1,R'.2.2.1,R'.2.2.2.1,R'.2.2.2.2.mono (λa o z=>kp a o λq=>(tm a q).2.2 z) (λaa z=>z) λo e=>kp _ o Cu e⟩)
end
theorem F2.imp {P Q:Expr->Ex->Prop} (h:∀e x,P e x->Q e x):∀ {es:List Expr} {xs:List Ex},F2 P es xs->F2 Q es xs
 |[],[]=>@λaa=>trivial
 |_::_,_::_=>@λF=>⟨h _ _ F.1,F.2.1,F.2.2.imp h⟩
 |[],_::_=>@λF=>F.elim
 |_::_,[]=>@λF=>F.elim
section
variable {A:Around} {c:cR} {n:Nat}
abbrev M1 (A:Around) (c:cR) (sc:Sc) (e:Expr) (x:Ex):Prop:= ∀(env:Env) (y:Lay),aN A sc env y->SE A c y (eval e env) x/\ST A c y (isTrue e env (eval e env)) x
abbrev M2 (A:Around) (c:cR) (sc:Sc) (es:List Expr) (xs:List Ex):Prop:= ∀(env:Env) (y:Lay),aN A sc env y->F2 (λe x=>CE sc e x/\SE A c y (eval e env) x/\ST A c y (isTrue e env (eval e env)) x) es xs
abbrev M3 (A:Around) (c:cR) (sc:Sc) (o:Option Expr) (x:Ex):Prop:= ∀(env:Env) (y:Lay),aN A sc env y->SE A c y (evalPart o env) x
abbrev M4 (A:Around) (c:cR) (sc:Sc) (e:Expr) (it:iN) (b8:List Ex):Prop:= ∀(env:Env) (y:Lay),aN A sc env y->SI A c y (eval e env) it b8
def MM (A:Around) (c:cR) (sc:Sc):Sy->Prop
 |.e e x=>M1 A c sc e x
 |.s es xs=>M2 A c sc es xs
 |.o o x=>M3 A c sc o x
 |.i e it b8=>M4 A c sc e it b8
theorem bj (R:Rn A c n):∀sc q,CQ sc q->MM A c sc q:=by
 have dN:∀ {sc:Sc} {e:Expr} {x:Ex},(∀env y,aN A sc env y->SE A c y (eval e env) x)->(∀env,isTrue e env (eval e env)=(do let v <- eval e env;standAt e.pos;holding [v] (truthy v)))->M1 A c sc e x:=
  λH he env y en=>⟨H env y en,.of (H env y en) (he env)⟩
 have p2:∀ {sc:Sc} {es:List Expr} {xs:List Ex} {env:Env} {y:Lay},F2 (λe x=>CE sc e x/\SE A c y (eval e env) x/\ST A c y (isTrue e env (eval e env)) x) es xs->F2 (λe x=>CE sc e x/\SE A c y (eval e env) x) es xs:=λF=>F.imp λaa aA h=>⟨h.1,h.2.1⟩
 have pe:∀ {sc:Sc} {es:List Expr} {xs:List Ex} {env:Env} {y:Lay},F2 (λe x=>CE sc e x/\SE A c y (eval e env) x/\ST A c y (isTrue e env (eval e env)) x) es xs->F2 (λe x=>SE A c y (eval e env) x) es xs:=λF=>F.imp λaa aA h=>h.2.1
 have pt:∀ {sc:Sc} {es:List Expr} {xs:List Ex} {env:Env} {y:Lay},F2 (λe x=>CE sc e x/\SE A c y (eval e env) x/\ST A c y (isTrue e env (eval e env)) x) es xs->F2 (λe x=>ST A c y (isTrue e env (eval e env)) x) es xs:=λF=>F.imp λaa aA h=>h.2.2
 have Jq:∀ {sc:Sc} {k:Const} {kk:Nat} {pos:Pos} {d:D} (a:eB k d),M1 A c sc (.Constant k kk pos) (.lit d):=λa=>dN (λenv y en=>DU a) λaa=>rfl
 have Jg:∀ {sc:Sc} {x:Str} {pos:Pos} {i:Nat} (a:sc.isV x i),M1 A c sc (.Name x pos) (.var i):=λa=>dN (λenv y en=>DN en a) λaa=>rfl
 have L5:∀ {sc:Sc} {x:Str} {pos:Pos} {i:Nat} (a:sc.isV x i),M1 A c sc (.Name x pos) (.pl (.var i)):=λa=>dN (λenv y en=>Hj en a) λaa=>rfl
 have L7:∀ {sc:Sc} {x:Str} {pos:Pos} {k:Nat} (a:sc.isG x) (b:tb.gl[k]? = some x),M1 A c sc (.Name x pos) (.gl k):=λa b=>dN (λenv y en=>Hn R en a b) λaa=>rfl
 have Jh:∀ {sc:Sc} {es:List Expr} {k:Nat} {pos:Pos} {xs:List Ex} (a:lA sc es xs) (b:xs.length<=1000),M2 A c sc es xs->M1 A c sc (.Tuple es k pos) (.tup xs):=λa b ih=>dN (λenv y en=>DO (p2 (ih env y en)) b) λaa=>rfl
 have FK:∀ {sc:Sc} {es:List Expr} {pos:Pos} {xs:List Ex} (a:lA sc es xs) (b:xs.length<=1000),M2 A c sc es xs->M1 A c sc (.List es pos) (.list xs):=λa b ih=>dN (λenv y en=>zQ (p2 (ih env y en)) b) λaa=>rfl
 have Jm:∀ {sc:Sc} {a b:Expr} {pos:Pos} {o:lE} {x z:Ex} (h1:CE sc a x) (h2:CE sc b z) (h3:Apart x (aS z)),M1 A c sc a x->M1 A c sc b z->M1 A c sc (.BinOp a (wx o) b pos) (.op2 o x z):=
  λh1 h2 h3 i1 i2=>dN (λenv y en=>DR (i1 env y en).1 (i2 env y en).1 h3) λaa=>rfl
 have Jp:∀ {sc:Sc} {a:Expr} {pos:Pos} {x:Ex} (h1:CE sc a x),M1 A c sc a x->M1 A c sc (.UnaryOp .USub a pos) (.neg x):=λh1 i1=>dN (λenv y en=>DT (i1 env y en).1) λaa=>rfl
 have Jn:∀ {sc:Sc} {a:Expr} {pos:Pos} {x:Ex} (h1:CE sc a x),M1 A c sc a x->M1 A c sc (.UnaryOp .Not a pos) (.not x):=λh1 i1 env y en=>⟨DS (i1 env y en).1,Dp (i1 env y en).2⟩
 have Jv:∀ {sc:Sc} {a b:Expr} {pos:Pos} {o:Cm} {x z:Ex} (h1:CE sc a x) (h2:CE sc b z) (h3:Apart x (aS z)),M1 A c sc a x->M1 A c sc b z->M1 A c sc (.Compare a [eM o] [b] pos) (.cmp o x z):=
  λh1 h2 h3 i1 i2 env y en=>⟨DZ R (i1 env y en).1 (i2 env y en).1 h3 (h2.noSet _),Dr R (i1 env y en).1 (i2 env y en).1 h3 (h2.noSet _)⟩
 have FQ:∀ {sc:Sc} {a b e:Expr} {pos:Pos} {o p:Cm} {x z u:Ex} (h1:CE sc a x) (h2:CE sc b z) (h3:CE sc e u),M1 A c sc a x->M1 A c sc b z->M1 A c sc e u->M1 A c sc (.Compare a [eM o,eM p] [b,e] pos) (.cmp2 o p x z u):=
  λh1 h2 h3 i1 i2 i3 env y en=>⟨zV R (i1 env y en).1 (i2 env y en).1 (i3 env y en).1 (h3.noSet _),zC R (i1 env y en).1 (i2 env y en).1 (i3 env y en).1 (h3.noSet _)⟩
 have Jy:∀ {sc:Sc} {es:List Expr} {pos:Pos} {xs:List Ex} (a:lA sc es xs),M2 A c sc es xs->M1 A c sc (.BoolOp .And es pos) (.and xs):=λa ih env y en=>⟨D2 (pe (ih env y en)),Ds (pt (ih env y en))⟩
 have L6:∀ {sc:Sc} {es:List Expr} {pos:Pos} {xs:List Ex} (a:lA sc es xs),M2 A c sc es xs->M1 A c sc (.BoolOp .Or es pos) (.or xs):=λa ih env y en=>⟨Hk (pe (ih env y en)),G0 (pt (ih env y en))⟩
 have Jr:∀ {sc:Sc} {t a b:Expr} {pos:Pos} {x z u:Ex} (h1:CE sc t x) (h2:CE sc a z) (h3:CE sc b u),M1 A c sc t x->M1 A c sc a z->M1 A c sc b u->M1 A c sc (.IfExp t a b pos) (.ite x z u):=
  λh1 h2 h3 i1 i2 i3 env y en=>⟨DV (i1 env y en).2 (i2 env y en).1 (i3 env y en).1,Dq (i1 env y en).2 (i2 env y en).2 (i3 env y en).2⟩
 have Ju:∀ {sc:Sc} {a i:Expr} {pos:Pos} {x z:Ex} (h1:CE sc a x) (h2:CE sc i z) (h3:Apart x (aS z)),M1 A c sc a x->M1 A c sc i z->M1 A c sc (.Subscript a i pos) (.idx x z):=
  λh1 h2 h3 i1 i2=>dN (λenv y en=>DY (i1 env y en).1 (i2 env y en).1 h3 h2.isPlain) λaa=>rfl
 have Ji:∀ {sc:Sc} {a:Expr} {lo hi:Option Expr} {p pos:Pos} {x l u:Ex} (h1:CE sc a x) (h2:Ms sc lo l) (h3:Ms sc hi u) (h4:Apart x (aS l++aS u)),M1 A c sc a x->M3 A c sc lo l->M3 A c sc hi u->M1 A c sc (.Subscript a (.Slice lo hi none p) pos) (.slc x l u):=
  λh1 h2 h3 h4 i1 i2 i3=>dN (λenv y en=>DP (i1 env y en).1 (i2 env y en) (i3 env y en) h4) λaa=>rfl
 have FR:∀ {sc:Sc} {f:Nat} {d:DefRec} {p pos:Pos} {args:List Expr} {xs:List Ex} (h1:tb.fn[f]? = some d/\f<tb.m0) (h2:sc.isG d.name) (h3:lA sc args xs) (h4:args.length<=29),M2 A c sc args xs->M1 A c sc (.Call (.Name d.name p) args [] pos) (.call f xs):=
  λh1 h2 h3 h4 ih=>dN (λenv y en=>zW R en h1 h2 (p2 (ih env y en))) λaa=>rfl
 have Jw:∀ {sc:Sc} {b:Bi} {p pos:Pos} {a:Expr} {x:Ex} (h1:b.one=true) (h2:sc.isG (dw b)) (h3:CE sc a x),M1 A c sc a x->M1 A c sc (.Call (.Name (dw b) p) [a] [] pos) (.bi b [x]):=
  λh1 h2 h3 i1=>dN (λenv y en=>D0 R en h1 h2 h3 (i1 env y en).1) λaa=>rfl
 have Jt:∀ {sc:Sc} {t:Ty} {p p' pos:Pos} {a:Expr} {x:Ex} (h1:sc.isG "isinstance") (h2:sc.isG (cE t)) (h3:CE sc a x),M1 A c sc a x→M1 A c sc (.Call (.Name "isinstance" p) [a,.Name (cE t) p'] [] pos) (.bi (.isi t) [x]):=
  λh1 h2 h3 i1=>dN (λenv y en=>DX R en h1 h2 h3 (i1 env y en).1) λaa=>rfl
 have FP:∀ {sc:Sc} {cq iter g:Expr} {vs:List Str} {t:Tgt} {pos:Pos} {eO:List Expr} {scope:Scope} {i:Nat} {it:iN} {b8 ay:List Ex} {x:Ex} (h0:CG i g vs t) (h1:IT sc iter it b8) (h2:gN scope sc vs) (h3:sc.hi<=i) (h4:CE (bJ scope sc vs i) cq x) (h5:lA (bJ scope sc vs i) eO ay) (h6:∀j∈aW t,j∉aS x/\j∉bf ay),
   M4 A c sc iter it b8->M1 A c (bJ scope sc vs i) cq x->M2 A c (bJ scope sc vs i) eO ay->M1 A c sc (.ListComp cq [⟨g,iter,eO,0⟩] scope pos) (.comp x t it b8 ay):=
  λh0 h1 h2 h3 h4 h5 h6 i1 i2 i3=>dN (λenv y en=>zU h0 R.hh en h2 h3 (i1 env y en) (h1.noFold env) (λenv y en=>(i2 env y en).1) λenv y en=>pt (i3 env y en)) λaa=>rfl
 have Js:∀ {sc:Sc} {x C:Str} {p p1 p2 pos:Pos} {i:Nat} {yes no:List Str} (h1:sc.isG "isinstance") (h2:sc.isV x i) (h3:sc.isG C) (h4:tb.sub.lookup C = some (yes,no)),M1 A c sc (.Call (.Name "isinstance" p) [.Name x p1,.Name C p2] [] pos) (.isx i yes no):=
  λh1 h2 h3 h4=>dN (λenv y en=>DW R en h1 h2 h3 h4) λaa=>rfl
 have FL:∀ {sc:Sc} {x:Str} {cs:List Str} {es:List Expr} {p p1 p2 pos:Pos} {k i:Nat} {yes no:List Str} (h1:sc.isG "isinstance") (h2:sc.isV x i) (h3:NS sc es cs) (h4:cs.length≤1000) (h5:tb.sbt.lookup cs = some (yes,no)),M1 A c sc (.Call (.Name "isinstance" p) [.Name x p1,.Tuple es k p2] [] pos) (.isx i yes no):=
  λh1 h2 h3 h4 h5=>dN (λenv y en=>zR R en h1 h2 h3 h4 h5) λaa=>rfl
 have L8:∀ {sc:Sc} {e:Expr} {b:Bi} {es:List Expr} {xs:List Ex} (h1:BX sc e b es) (h2:lA sc es xs),M2 A c sc es xs->M1 A c sc e (.bi b xs):=
  λh1 h2 ih=>dN (λenv y en=>Ho R en h1 (p2 (ih env y en))) λaa=>by cases h1<;>rfl
 have Jo:∀ {sc:Sc},M2 A c sc [] []:=λenv y en=>trivial
 have FO:∀ {sc:Sc} {e:Expr} {es:List Expr} {x:Ex} {xs:List Ex} (h1:CE sc e x) (h2:lA sc es xs) (h3:Apart x (bf xs)),M1 A c sc e x->M2 A c sc es xs->M2 A c sc (e::es) (x::xs):=
  λh1 h2 h3 i1 i2 env y en=>⟨⟨h1,i1 env y en⟩,h3,i2 env y en⟩
 have FJ:∀ {sc:Sc},M3 A c sc none (.lit .none):=fun {sc} env y en own Z s fr out h I=>by
  exact Er (aI h).symm (wpAny_evalPart_none (.val I .refl .none))
 have FI:∀ {sc:Sc} {e:Expr} {x:Ex} (h1:CE sc e x),M1 A c sc e x->M3 A c sc (some e) x:=λh1 i1 env y en own Z s fr out h I=>wpAny_evalPart_some ((i1 env y en).1 own Z s fr out h I)
 have Jj:∀ {sc:Sc} {e:Expr} {x:Ex} (h1:CE sc e x),M1 A c sc e x->M4 A c sc e .seq [x]:=λh1 i1 env y en=>DI R (i1 env y en).1
 have BF:∀ {sc:Sc} {p pos:Pos} {e:Expr} {x:Ex} (h0:sc.isG "range") (h1:CE sc e x),M1 A c sc e x→M4 A c sc (.Call (.Name "range" p) [e] [] pos) .range [x]:=fun h0 h1 i1 env y en=>vW R en h0 h1 (i1 env y en).1
 have FN:∀ {sc:Sc} {lB:List (Option Expr)} {ks:List Str} {dI:List Expr} {xs:List Ex} {x:Str} {i:Nat} {dp p pos:Pos} (h1:KS lB ks) (h2:lA sc dI xs) (h3:sc.isV x i) (h4:ks.Nodup) (h5:ks.length=xs.length) (h6:ks≠ []/\ks.length<=15),M2 A c sc dI xs->M1 A c sc (.Subscript (.Dict lB dI dp) (.Name x p) pos) (.dsel ks xs i):=
  λh1 h2 h3 h4 h5 h6 ih=>dN (λenv y en=>zT en h1 (p2 (ih env y en)) h3 h4 h5 h6) λaa=>rfl
 have FS:∀ {sc:Sc} {x a:Str} {p pos:Pos} {i:Nat} (h:sc.isA x a i),M1 A c sc (.Attribute (.Name x p) a pos) (.var i):=λh=>dN (λenv y en=>zX R en h) λaa=>rfl
 have Jx:∀ {sc:Sc} {x a:Str} {p pos:Pos} {i:Nat} (h:sc.isA x a i),M1 A c sc (.Attribute (.Name x p) a pos) (.pl (.var i)):=λh=>dN (λenv y en=>D1 R en h) λaa=>rfl
 have Jl:∀ {sc:Sc} {o:Expr} {ap pos:Pos} {i:Nat} (h:PE sc o i) (hl:(ap.endLine == pos.line) = true),M1 A c sc (.Call (.Attribute o "pop" ap) [] [] pos) (.pop (.var i)):=fun h hl=>dN (fun env y en=>DQ R en h hl) fun aa=>rfl
 have BG:∀ {sc:Sc} {f:Nat} {d:DefRec} {x:Str} {p ap pos:Pos} {args:List Expr} {xs:List Ex} (h1:tb.fn[f]? = some d∧tb.m0 < f∧tb.rb[f - tb.m0]? = some []) (h2:x = sc.sn∧(x == ("__debug__" :Str)) = false∧sc.ats≠ []) (h3:(ap.endLine == pos.line) = true) (h4:lA sc args xs) (h5:args.length≤28),M2 A c sc args xs→M1 A c sc (.Call (.Attribute (.Name x p) d.name ap) args [] pos) (.mcall f sc.as xs):=
  λh1 h2 h3 h4 h5 ih=>dN (λenv y en=>vY R en h1 h2 h3 (p2 (ih env y en)) h5) λaa=>rfl
 have BI:∀ {sc:Sc} {f:Nat} {d:DefRec} {p pos:Pos} {args:List Expr} {e:Expr} {xs:List Ex} {z:Ex} (h1:tb.fn[f]? = some d/\f<tb.m0) (h2:sc.isG d.name) (h3:lA sc args xs) (h4:CE sc e z) (h5:args.length<=28/\ ∀x∈xs, ∀p,x≠ .pl p),M2 A c sc args xs->M1 A c sc e z->M1 A c sc (.Call (.Name d.name p) (args++[e]) [] pos) (.callw f xs z):=
  λh1 h2 h3 h4 h5 i1 i2=>dN (λenv y en=>v4 R en h1 h2 (p2 (i1 env y en)) h4 (i2 env y en).1 h5.2) λaa=>rfl
 have Jk:∀ {sc:Sc} {p pos:Pos} {e:Expr} {x:Ex} (h0:sc.isG "reversed") (h1:CE sc e x),M1 A c sc e x→M4 A c sc (.Call (.Name "reversed" p) [e] [] pos) .rev [x]:=fun h0 h1 i1 env y en=>DJ R en h0 h1 (i1 env y en).1
 exact λsc q h=>@CQ.rec (λsc q aa=>MM A c sc q) Jq Jg L5 L7 Jh FK Jm Jp Jn Jv FQ Jy L6 Jr Ju Ji FR Jw Jt FP Js FL FN L8 FS Jx Jl BG BI Jo FO FJ FI Jj BF Jk sc q h
end
end Mv
namespace Mv
open PySem PyProof.Rows
class inductive TGs (sc:Sc):List Expr->List Nat->Prop
 |nil:TGs sc [] []
 |cons {x:Str} {p:Pos} {i:Nat} {es:List Expr} {is:List Nat}:sc.isV x i->TGs sc es is->TGs sc (.Name x p::es) (i::is)
inductive TG (sc:Sc):Expr->Tgt->Prop
 |one {x:Str} {p:Pos} {i:Nat}:sc.isV x i->TG sc (.Name x p) (.one i)
 |tup {es:List Expr} {is:List Nat} {k:Nat} {p:Pos}:TGs sc es is->TG sc (.Tuple es k p) (.tup is)
inductive Sw where
 |st (s:Stmt) (z:St)
 |ss (ss:List Stmt) (zs:List St)
noncomputable def b4 (sc:Sc):List Nat:=(List.range tb.an.length).map λk=>sc.hi+k
noncomputable def gj (sc:Sc) (x:Str):Sc:= {sc with sn:=x,ats:=tb.an.zip (b4 sc),hi:=sc.hi+tb.an.length+1}
class inductive CT:Sc->Sw->Prop
 |asg {sc:Sc} {x:Str} {p pos:Pos} {value:Expr} {i:Nat} {e:Ex}:sc.isV x i->CE sc value e->CT sc (.st (.Assign [.Name x p] value pos) (.asg (.one i) e))
 |asgA {sc:Sc} {x a:Str} {p p' pos:Pos} {value:Expr} {i:Nat} {e:Ex}:sc.isA x a i->CE sc value e->dK value=true->CT sc (.st (.Assign [.Attribute (.Name x p) a p'] value pos) (.asg (.one i) e))
 |setI {sc:Sc} {o:Expr} {p' pos:Pos} {value idx:Expr} {i:Nat} {e k:Ex}:PE sc o i->CE sc value e->CE sc idx k->CT sc (.st (.Assign [.Subscript o idx p'] value pos) (.setI (.var i) k e))
 | app {sc:Sc} {o:Expr} {cW pos gn:Pos} {e:Expr} {i:Nat} {z:Ex} :PE sc o i→CE sc e z→(cW.endLine == pos.line) = true→CT sc (.st (.Expr (.Call (.Attribute o "append" cW) [e] [] pos) gn) (.app (.var i) z))
 | rev {sc:Sc} {o:Expr} {cW pos gn:Pos} {i:Nat} :PE sc o i→(cW.endLine == pos.line) = true→CT sc (.st (.Expr (.Call (.Attribute o "reverse" cW) [] [] pos) gn) (.rev (.var i)))
 | mst {sc:Sc} {f:Nat} {d:DefRec} {x:Str} {p ap pos gn:Pos} {args:List Expr} {xs:List Ex} :tb.fn[f]? = some d∧tb.m0≤f→x = sc.sn∧(x == ("__debug__" :Str)) = false∧sc.ats≠ []→(ap.endLine == pos.line) = true→lA sc args xs→args.length≤28→CT sc (.st (.Expr (.Call (.Attribute (.Name x p) d.name ap) args [] pos) gn) (.mst f sc.as (sM (kI f) sc.as) xs))
 |exp {sc:Sc} {e:Expr} {pos:Pos} {z:Ex}:CE sc e z->dK e=true->CT sc (.st (.Expr e pos) (.exp z))
 |iff {sc:Sc} {t:Expr} {a b:List Stmt} {pos:Pos} {z:Ex} {xa xb:List St}:CE sc t z->CT sc (.ss a xa)->CT sc (.ss b xb)->CT sc (.st (.If t a b pos) (.iff z xa xb))
 |ret {sc:Sc} {e:Expr} {pos:Pos} {z:Ex}:CE sc e z->CT sc (.st (.Return (some e) pos) (.ret z))
 |retN {sc:Sc} {pos:Pos}:CT sc (.st (.Return none pos) (.ret (.lit .none)))
 |for1 {sc:Sc} {g:Expr} {pos:Pos} {iter:Expr} {body:List Stmt} {t:Tgt} {it:iN} {b8:List Ex} {xb:List St} {cD:List Nat}:TG sc g t->IT sc iter it b8->CT sc (.ss body xb)->CT sc (.st (.For g iter body [] pos) (.for_ t it b8 xb cD))
 |whl {sc:Sc} {t:Expr} {body:List Stmt} {pos:Pos} {z:Ex} {xb:List St} {cD:List Nat}:CE sc t z->CT sc (.ss body xb)->CT sc (.st (.While t body [] pos) (.whl z xb cD))
 |raise {sc:Sc} {k HQ:Str} {np gu pos ap:Pos} {kk:Nat}:sc.isG k->k∈tb.cl->CT sc (.st (.Raise (some (.Call (.Name k np) [.Constant (.str HQ) kk ap] [] gu)) none pos) (.raise k))
 |try1 {sc:Sc} {x cn:Str} {p hp pos:Pos} {i:Nat} {yes no:List Str} {body hs:List Stmt} {h0:Stmt} {xb xh:List St}:sc.isV x i->sc.names.lookup x=some .local->sc.isG cn->tb.sub.lookup cn=some (yes,no)->CT sc (.ss body xb)->CT sc (.ss (h0::hs) xh)->
   CT sc (.st (.Try body [.ExceptHandler (some (.Name cn p)) (some x) (h0::hs) hp] [] [] pos) (.try_ xb yes i xh))
 |asgT {sc:Sc} {es:List Expr} {is:List Nat} {k:Nat} {p pos:Pos} {value:Expr} {e:Ex}:TGs sc es is->CE sc value e->dK value=true->pv value=true->CT sc (.st (.Assign [.Tuple es k p] value pos) (.asg (.tup is) e))
 |no {sc:Sc} {s:Stmt}:CT sc (.st s .no)
 |nil {sc:Sc}:CT sc (.ss [] [])
 |cons {sc:Sc} {s:Stmt} {ss:List Stmt} {z:St} {zs:List St}:CT sc (.st s z)->CT sc (.ss ss zs)->CT sc (.ss (s::ss) (z::zs))
 | new {sc:Sc} {c:ClsRec} {x:Str} {p np gu pos:Pos} {args:List Expr} {xs:List Ex} {rest:List Stmt} {body:List St} :tb.cr = some c→sc.isG c.name→sc.ats = []∧sc.names.lookup x = some .local∧sc.vars.lookup x = none∧(x == ("__debug__" :Str)) = false→lA sc args xs→args≠ []∧(∃d,tb.fn[tb.m0]? = some d∧d.name = "__init__")→
   CT (gj sc x) (.ss rest body)->CT sc (.ss (.Assign [.Name x p] (.Call (.Name c.name np) args [] gu) pos::rest) [.new tb.m0 (b4 sc) xs body])
abbrev CS (sc:Sc) (s:Stmt) (z:St):Prop:=CT sc (.st s z)
abbrev JW (sc:Sc) (ss:List Stmt) (zs:List St):Prop:=CT sc (.ss ss zs)
variable [Hp]
theorem CG.le {vs:List Str} (h:CG i g vs t) (hj:j∈aW t):i<=j:=by
 cases h with
 |one=>exact Zj (mem_singleton.mp hj).symm
noncomputable def Nr:Sy->List Nat
 |.e _ x=>aS x
 |.s _ xs=>bf xs
 |.o _ x=>aS x
 |.i _ _ b8=>bf b8
theorem fb:∀sc q,CQ sc q-> ∀j∈Nr q,sc.hi<=j:=by
 have nil:∀ {sc:Sc} {j:Nat},j∈([]:List Nat)->sc.hi<=j:=λh=>by cases h
 have app:∀ {sc:Sc} {a b:List Nat},(∀j∈a,sc.hi<=j)->(∀j∈b,sc.hi<=j)-> ∀j∈a++b,sc.hi<=j:=λh1 h2 j hj=>(mem_append.mp hj).elim (h1 j) (h2 j)
 have comp:∀ {sc:Sc} {cq iter g:Expr} {vs:List Str} {t:Tgt} {eO:List Expr} {scope:Scope} {i:Nat} {it:iN} {b8 ay:List Ex} {x:Ex} (h0:CG i g vs t) (h1:IT sc iter it b8) (h2:gN scope sc vs) (h3:sc.hi<=i) (h4:CE (bJ scope sc vs i) cq x) (h5:lA (bJ scope sc vs i) eO ay) (h6:∀j∈aW t,j∉aS x/\j∉bf ay),
   (∀j∈bf b8,sc.hi<=j)->(∀j∈aS x,(bJ scope sc vs i).hi<=j)->(∀j∈bf ay,(bJ scope sc vs i).hi<=j)-> ∀j∈aS (.comp x t it b8 ay),sc.hi<=j:=fun {sc _ _ _ vs _ _ scope i _ _ _ _} h0 h1 h2 h3 h4 h5 h6 i1 i2 i3=>by
  have up:∀j,(bJ scope sc vs i).hi<=j->sc.hi<=j:=λj h=>Zh h3 (Zh (Zl i _) h)
  exact app (app (app (λj hj=>Zh h3 (h0.le hj)) λj hj=>up j (i2 j hj)) i1) λj hj=>up j (i3 j hj)
 exact λsc q h=>@CQ.rec (λsc q aa=> ∀j∈Nr q,sc.hi<=j) (λaa j hj=>nil hj) (λaa j hj=>nil hj) (λaa j hj=>nil hj) (λaa aA j hj=>nil hj) (λaa aA ih=>ih) (λaa aA ih=>ih) (λaa aA bF a b=>app a b) (λaa a=>a) (λaa a=>a) (λaa aA bF a b=>app a b) (λaa aA bF a b e=>app (app a b) e) (λaa a=>a) (λaa a=>a) (λaa aA bF a b e=>app (app a b) e)
  (λaa aA bF a b=>app a b) (λaa aA bF gy a b e=>app (app a b) e) (λaa aA bF gy a=>a) (λaa aA bF a=>app a λaa h=>nil h) (λaa aA bF a=>app a λaa h=>nil h) comp (λaa aA bF gy j hj=>nil hj) (λaa aA bF gy xq j hj=>nil hj) (λaa aA bF gy xq K0 a=>a) (λaa aA a=>a) (λaa j hj=>nil hj) (λaa j hj=>nil hj) (λaa aA j hj=>nil hj) (λaa aA bF gy xq a=>a) (λaa aA bF gy xq a b=>app a b) (λj hj=>nil hj) (λaa aA bF a b=>app a b) (λj hj=>nil hj) (λaa a=>a) (λaa a=>app a λaa h=>nil h) (λaa aA a=>app a λaa h=>nil h) (λaa aA a=>app a λaa h=>nil h) sc q h
section
variable {A:Around} {c:cR} {n:Nat} {env:Env} {sc:Sc} {y:Lay}
 {bv bv':List Nat} {own ac ak ae:Addr->Option Nat} {Z aw Z₀ Z':Addr->Prop} {s s₁ s₀ s':Shared} {fr aq:Fm}
theorem Step.strong (S:Step y bv own Z s ae Z' s') (en:aN A sc env y) (h:∀j∈bv,sc.hi<=j):Step y [] own Z s ae Z' s':=
 {S with bind:=λi l v aa hl r=>S.bind i l v (λq=>by have:=h i q;have:=en.hi i l hl;exact(Lf [sc.3,i] [Gl .x .y,Gl (.p 1 .y) .x] rfl ‹sc.hi<=i› this)) hl r}
theorem aV.strong {out:Except Str β×Fm} {Nq:List Nat} (en:aN A sc env y) (h:∀j∈Nq,sc.hi<=j) (S:Step y bv ak Z₀ s₀ own Z s) (x:aV y Nq own Z s out v s'):aV y bv ak Z₀ s₀ out v s':=by
 obtain⟨nm,a,ae,Z',q,e1,I,S',X⟩:=x;exact⟨nm,a,ae,Z',q,e1,I,S.trans ((S'.strong en h).sub λaa h=>by cases h),X.mono λb aa aA h=>⟨S.old b h.1,h.2⟩⟩
def Gb (y:Lay) (s₀:Shared) (ae:Addr->Option Nat) (Z':Addr->Prop) (s':Shared) (f:Flow):dH->Prop
 |.next=>f = .next
 |.ret r=> ∃v,f = .ret v/\d6 y ae Z' s₀.heap s'.heap r v/\ ∃d,bQ r=some d
inductive jk (y:Lay) (bv:List Nat) (s₀:Shared) (own:Addr->Option Nat) (Z:Addr->Prop) (s:Shared) (out:Except Str dH×Fm) (f:Flow) (s':Shared):Prop
 |mk (k:dH) (ae:Addr->Option Nat) (Z':Addr->Prop):out.1 = .ok k->Inv y ae Z' s'.heap out.2->Step y bv own Z s ae Z' s'->Gb y s₀ ae Z' s' f k->jk y bv s₀ own Z s out f s'
def SS (A:Around) (c:cR) (y:Lay) (bv:List Nat) (ak:Addr->Option Nat) (Z₀:Addr->Prop) (s₀:Shared) (m:Sem Flow) (z:List St):Prop:=
 ∀(own:Addr->Option Nat) (Z:Addr->Prop) (s:Shared) (fr:Fm) (out:Except Str dH×Fm),c9 c z fr=some out->Inv y own Z s.heap fr->Step y bv ak Z₀ s₀ own Z s->wpAny (model prog w) A m (jk y bv s₀ own Z s out) (aV y bv own Z s out) s
def ly (A:Around) (c:cR) (y:Lay) (bv:List Nat) (ak:Addr->Option Nat) (Z₀:Addr->Prop) (s₀:Shared) (m:Sem Flow) (z:St):Prop:=
 ∀(own:Addr->Option Nat) (Z:Addr->Prop) (s:Shared) (fr:Fm) (out:Except Str dH×Fm),mB c z fr=some out->Inv y own Z s.heap fr->Step y bv ak Z₀ s₀ own Z s->wpAny (model prog w) A m (jk y bv s₀ own Z s out) (aV y bv own Z s out) s
theorem o8 {x:Ex} {k:Rv->Fm->cA β} {out:Except Str β×Fm} {Q:Value->Shared->Prop} (en:aN A sc env y) (ce:CE sc e x) (H:SE A c y (eval e env) x) (hk:aT (ev c x fr) k=some out) (I:Inv y own Z s.heap fr) (S:Step y bv ak Z₀ s₀ own Z s)
  (K:∀r ax av aR aG v,ev c x fr=some (.ok r,ax)->k r ax=some out->Inv y av aR aG.heap ax->Step y [] own Z s av aR aG->Step y bv ak Z₀ s₀ av aR aG->d6 y av aR s.heap aG.heap r v->Q v aG):
  wpAny (model prog w) A (eval e env) Q (aV y bv ak Z₀ s₀ out) s:=by
 refine YW (cB (bv:=aS x) hk .refl (λaa h=>h) (λo e=>H own Z s fr o e I) λr ax av aR aG v bn h aF bb aa R=>?_) (λv s' q=>q) λaa s' p=>p.strong en (fb sc (.e e x) ce) S
 exact K r ax av aR aG v bn h aF (bb.strong en (fb sc (.e e x) ce)) (S.trans ((bb.strong en (fb sc (.e e x) ce)).sub λaa h=>by cases h)) R
theorem vX {x:Ex} {k:Rv->Fm->cA β} {out:Except Str β×Fm} {Q:Bool->Shared->Prop} (en:aN A sc env y) (ce:CE sc e x) (H:ST A c y (isTrue e env (eval e env)) x) (hk:aT (ev c x fr) k=some out) (I:Inv y own Z s.heap fr) (S:Step y bv ak Z₀ s₀ own Z s)
  (hd:∀r ax,k r ax=some out-> ∃d,cj ax r=some d)
  (K:∀r d ax av aR aG,k r ax=some out->cj ax r=some d->Inv y av aR aG.heap ax->Step y bv ak Z₀ s₀ av aR aG->Q (tD d) aG):
  wpAny (model prog w) A (isTrue e env (eval e env)) Q (aV y bv ak Z₀ s₀ out) s:=by
 refine YW (kA (bv:=aS x) hk .refl (λaa h=>h) hd (λo e hd=>H own Z s fr o e hd I) λr d ax av aR aG h hd aF bb aa=>?_) (λv s' q=>q) λaa s' p=>p.strong en (fb sc (.e e x) ce) S
 exact K r d ax av aR aG h hd aF (S.trans ((bb.strong en (fb sc (.e e x) ce)).sub λaa h=>by cases h))
theorem Step.addO (S:Step y bv own Z s ae Z' s') (e:s.heap.get? a=none):Step y bv own Z s (addO ae a i) Z' s':=
 ⟨S.sh,S.ext,S.zm,S.zn,λb j q=>by
   by_cases h:b=a
   .exact .inr (h▸e)
   .rw[ff h]at q;exact S.on b j q,S.bind⟩
set_option tactic.hygienic true in
theorem sO {m:Sem Unit} {r:Rv} {ax:Fm} {h₀:Heap} {Q:Unit->Shared->Prop} (pu:∀(l:Loc) (Q:Unit->Shared->Prop),y.loc i=some l->(∀h' tk,y8 y i l v s.heap h'->Q () {s with heap:=h',toks:=tk})->wpAny (model prog w) A m Q E s) (hl:∃l,y.loc i=some l) (hb:i∉c.pin->i∈bv)
  (he:asgT c.pin fr (.one i) r=some ax) (I:Inv y own Z s.heap fr) (S:Step y bv ak Z₀ s₀ own Z s) (hh:∀a,h₀.get? a=none->s₀.heap.get? a=none) (R:d6 y own Z h₀ s.heap r v)
  (K:∀ae Z' s',(∃h' tk,s'={s with heap:=h',toks:=tk})->(∀l,y.loc i=some l-> ∀a o,a≠l.addr->s.heap.get? a=some o->s'.heap.get? a=some o)->(∀a,ae a≠none->own a≠none\/v = .ref a)->(∀a,Z' a->Z a)->Inv y ae Z' s'.heap ax->Step y bv ak Z₀ s₀ ae Z' s'->Q () s'):wpAny (model prog w) A m Q E s:=by
 refine aX hl λl hl=>?_
 simp only[asgT]at he
 split at he
 .exact ah he
 .rename_i hp
  have EN:∀j∈ [i],j∈bv:=λj hj=>by rw[Zr]at hj;subst hj;exact(hb (by simpa using hp))
  split at he
  .obtain rfl:=aI he
   exact pu _ _ hl λh' tk P=>K own Z _ ⟨_,_,rfl⟩ (λl' cz=>by rw[hl]at cz;refine Er (aI cz).symm ?_;exact P.keep) (λa h=>.inl h) (λa z=>z) (P.fz I hl R) (S.trans ((P.step hl I).sub EN))
  .obtain rfl:=aI he
   obtain⟨a,R⟩:=R;obtain rfl:=R.1;refine pu _ _ hl λh' tk P=>K (addO own a i) Z _ ⟨_,_,rfl⟩ (λl' cz=>by rw[hl]at cz;refine Er (aI cz).symm ?_;exact P.keep) (λb h=>?_) (λa z=>z) (P.owned I hl R.2.2.1 R.2.2.2.1 R.2.2.2.2.1 R.2.2.2.2.2) ((S.trans ((P.step hl I).sub EN)).addO (hh a R.2.1))
   by_cases q:b=a
   .subst q;exact .inr rfl
   .rw[ff q]at h;exact .inl h
  .exact ah he
theorem lV {Q:Unit->Shared->Prop} (en:aN A sc env y) (hv:sc.vars.lookup x=some i) (hf:env.kindOf x≠some .free) (hl:∃l,y.loc i=some l) (hb:i∉c.pin->i∈bv)
  (he:asgT c.pin fr (.one i) r=some ax) (I:Inv y own Z s.heap fr) (S:Step y bv ak Z₀ s₀ own Z s) (hh:∀a,h₀.get? a=none->s₀.heap.get? a=none) (R:d6 y own Z h₀ s.heap r v)
  (K:∀ae Z' s',(∃h' tk,s'={s with heap:=h',toks:=tk})->(∀l,y.loc i=some l-> ∀a o,a≠l.addr->s.heap.get? a=some o->s'.heap.get? a=some o)->(∀a,ae a≠none->own a≠none\/v = .ref a)->(∀a,Z' a->Z a)->Inv y ae Z' s'.heap ax->Step y bv ak Z₀ s₀ ae Z' s'->Q () s'):wpAny (model prog w) A (storeName env x v) Q E s:=
 sO (λl Q hl h=>fA en hv hf hl I h) hl hb he I S hh R K
structure cX (A:Around) (sc:Sc) (env:Env) (y:Lay) (c:cR) (bv:List Nat) (ak:Addr->Option Nat):Prop where
 en:aN A sc env y
 nf:∀x i,sc.vars.lookup x=some i->env.kindOf x≠some .free
 bv:∀i,i∉c.pin->i<sc.hi->i∈bv
 ni:interactive env=false
 kd:∀x,env.kindOf x=sc.names.lookup x
 le:env.locals=y.L
 lv:∀j z,y.loc j=some (.dict y.L z)->sc.vars.lookup z≠none\/sc.ats≠ []
 sl:sc.ats=[]->y.slf=none
theorem cX.loc (ok:cX A sc env y c bv ak) (h:sc.vars.lookup x=some i):∃l,y.loc i=some l:=by
 rcases ok.en.var x i h with⟨_,e⟩|⟨_,c,_,e⟩<;>exact⟨_,e⟩
theorem cX.bvi (ok:cX A sc env y c bv ak) (h:sc.vars.lookup x=some i):i∉c.pin->i∈bv:=λhp=>by
 exact aX (ok.loc h) λl hl=>(ok.bv i hp (ok.en.hi i l hl))
set_option tactic.hygienic true in
theorem DD {p:Pos} {e:Ex} (R:Rn A c n) (ok:cX A sc env y c bv ak) (hx:sc.isV x i) (ce:CE sc value e):
  ly A c y bv ak Z₀ s₀ (exec (.Assign [.Name x p] value pos) env) (.asg (.one i) e):=by
 intro own Z s fr out h I S;rw[kb,show(c.hd&&(Tgt.one i).isTup)=false from Bool.and_false _,Y1 Z7]at h;have plain:swapsWith value (some (.Name x p)) pos.line env=pure false->wpAny (model prog w) A (exec (.Assign [.Name x p] value pos) env) (jk y bv s₀ own Z s out) (aV y bv own Z s out) s:=λhs=>by
  refine wpAny_Assign_Name (o8 ok.en ce (bj R sc _ ce env y ok.en).1 h I .refl λr ax av aR aG v bn h aF bb aY fy=>?_) hs
  split at h
  .rename_i jP he
   exact Er (aI h).symm (lV ok.en hx.1 (ok.nf x i hx.1) (ok.loc hx.1) (ok.bvi hx.1) he aF aY (λaa q=>q) fy λae Z' s' aa aA bF gy I' S'=>⟨.next,ae,Z',rfl,I',S',rfl⟩)
  .exact ah h
 by_cases hc:dK value=true
 .exact plain (eU ce hc)
 .cases ce.ci with
  |lit|nm=>exact absurd rfl hc
  |other h _ _=>exact absurd h hc
  |@comp cq iter g vs t gu eO scope j it b8 ay z h0 h1 h2 h3 h4 h5 h6=>
   have K8:swapsWith (.ListComp cq [⟨g,iter,eO,0⟩] scope gu) (some (.Name x p)) pos.line env=pure (env.blockKind == .function&&env.kindOf x==some .local&&p.line==gu.line
    && !(scope.names.any λ(n,k)=>n==x&&(k == .local||k == .cell))):=rfl
   generalize hb:(env.blockKind == .function&&env.kindOf x==some .local&&p.line==gu.line && !(scope.names.any λ(n,k)=>n==x&&(k == .local||k == .cell)))=b at K8;cases b with
   |false=>exact plain K8
   |true=>
    refine Er (exec_Assign_Name_used _ _ _ _ K8) ?_;refine YY (wpAny_standAt (YY ?_));have all:=bj R;refine ag λG g1=>?_
    rcases be h with⟨e,f,hm,rfl⟩|⟨r,f,hm,h⟩
    .refine g1 ?_
     refine YY (lm (use:=some (assign (.Name x p) env)) h0 R.hh ok.en h2 h3 (all _ _ h1 env y ok.en) (h1.noFold env) (λenv y en=>(all _ _ h4 env y en).1) (λenv y en=>(all _ _ h5 env y en).imp λaa aA q=>q.2.2) hm I (λaa s' p=>(p.strong ok.en (fb sc (.e _ _) (CQ.comp (pos:=gu) h0 h1 h2 h3 h4 h5 h6)) .refl).up (λaa h=>h) .refl) λDa C s' ae Z' ds cT m ho I' S' R' LC hm Cu=>?_);cases ho
    .refine g1 ?_
     refine YY (lm (use:=some (assign (.Name x p) env)) h0 R.hh ok.en h2 h3 (all _ _ h1 env y ok.en) (h1.noFold env) (λenv y en=>(all _ _ h4 env y en).1) (λenv y en=>(all _ _ h5 env y en).imp λaa aA q=>q.2.2) hm I (λe s' p=>p.elim) λDa C s' ae Z' ds cT m ho I' S' R' LC mn Cu=>?_);cases ho
     split at h
     .rename_i jP he
      refine Er (aI h).symm ?_;refine wpAny_assign_Name (lV ok.en hx.1 (ok.nf x i hx.1) (ok.loc hx.1) (ok.bvi hx.1) he I' ((S'.strong ok.en (fb sc (.e _ _) (.comp h0 h1 h2 h3 h4 h5 h6:CE sc (.ListComp cq [⟨g,iter,eO,0⟩] scope gu) (.comp z t it b8 ay)))).sub λaa h=>by cases h) (λaa q=>q) R' λwk JH lG MT Oj Lj hZ qD Mj=>?_);obtain⟨l,hl⟩:=ok.loc hx.1;have OI:C≠l.addr:=λq=>LC.2.1 (.inr (.inr ⟨i,l,hl,q.symm⟩))
      have tm:∀b,b=C-> ¬y.wr wk b/\ ¬y.F b/\ ¬JH b:=λb q=>by
       subst q;refine⟨λq=>?_,LC.2.2.1,λq=>LC.2.2.2.1 (hZ _ q)⟩
       rcases q with q|q
       .rcases Lj _ q with q|q
        .exact LC.2.1 (.inl q)
        .cases q;exact Cu rfl
       .exact LC.2.1 (.inr q)
      refine⟨m,(mn.at' λo ho=>Oj l hl C o OI ho),λh' hs=>YU (YU ?_)⟩;have kp:∀b o, ¬b=C->lG.heap.get? b=some o->h'.get? b=some o:=λb o q e=>hs.extBut b o q e
      exact⟨.next,wk,JH,rfl,qD.other tm kp,Mj.other (tk:=lG.toks) (X:=λb=>b=C) (λb q=>⟨q▸LC.1,(tm b q).1⟩) kp,rfl⟩
     .exact ah h
set_option tactic.hygienic true in
theorem zI {a:Str} {p p':Pos} {e:Ex} (R:Rn A c n) (ok:cX A sc env y c bv ak) (hx:sc.isA x a i) (ce:CE sc value e) (hc:dK value=true):
  ly A c y bv ak Z₀ s₀ (exec (.Assign [.Attribute (.Name x p) a p'] value pos) env) (.asg (.one i) e):=by
 intro own Z s fr out h I S;rw[kb,show(c.hd&&(Tgt.one i).isTup)=false from Bool.and_false _,Y1 Z7]at h;refine fM (ok.en.ins hx.ne) λpp dx J=>?_
 have hl:=(J.an a i hx.at').2;refine plainObj_wpAny_Assign_Attribute (o8 ok.en ce (bj R sc _ ce env y ok.en).1 h I .refl λr ax av aR aG v bn h aF bb aY fy=>?_) (eU ce hc);refine gU J ok.en aF hx.sn hx.db ?_
 split at h
 .rename_i jP he
  exact Er (aI h).symm (sO (λl Q hl h=>uf R.gd J hx hl aF h) ⟨_,hl⟩ (λhp=>ok.bv i hp (ok.en.hi i _ hl)) he aF aY (λaa q=>q) fy λae Z' s' aa aA bF gy I' S'=>⟨.next,ae,Z',rfl,I',S',rfl⟩)
 .exact ah h
theorem uw {Q:Unit->Shared->Prop} (ok:cX A sc env y c bv ak):∀ {es:List Expr} {is:List Nat},TGs sc es is-> ∀ {vs:List Value} {ds:List D} {fr ax:Fm} {s:Shared} {own:Addr->Option Nat} {Z:Addr->Prop},am s.heap Z vs ds->qu c.pin fr is ds=some ax->Inv y own Z s.heap fr->
  (∀s',(∃h' tk,s'={s with heap:=h',toks:=tk})->Inv y own Z s'.heap ax->Step y bv own Z s own Z s'->Q () s')->wpAny (model prog w) A (assignInOrder ((assignEach es env).map (·.2)) vs) Q E s:=by
 intro es is t
 induction t with
 |nil=>
  intro vs ds fr ax s own Z R h I K;cases ds with
  |nil=>obtain rfl:=aI h;exact assignInOrder_nil (K s ⟨_,_,rfl⟩ I .refl)
  |cons d ds=>exact ah h
 |@cons _ _ i _ is hx t ih=>
  intro vs ds fr ax s own Z R h I K;cases R with
  |nil=>exact ah h
  |@cons v vs d ds r R=>
   have h:(if c.pin.contains i then none else qu c.pin (fr.set i (.fz d)) is ds)=some ax:=h
   by_cases q:c.pin.contains i=true
   .rw[Y0 q]at h;exact ah h
   rw[Y1 q]at h;refine aX (ok.loc hx.1) λl hl=>?_
   refine assignInOrder_cons (wpAny_assign_Name (fA ok.en hx.1 (ok.nf _ i hx.1) hl I λh' tk P=>?_));have S1:Step y bv own Z s own Z {s with heap:=h',toks:=tk}:=(P.step hl I).sub λj hj=>by exact Er (mem_singleton.mp hj) (ok.bvi hx.1 λz=>q (contains_iff_mem.mpr z))
   refine ih (S1.repAll I R) h (P.fz I hl r) λs' sh I' S'=>K s' ?_ I' (S1.trans S')
   refine fM sh λh2 KB sh=>?_;subst sh;exact⟨_,_,rfl⟩
theorem TGs.len {is:List Nat} (t:TGs sc es is):(assignEach es env).length=is.length/\(assignEach es env).findIdx? (·.1)=none:=by
 induction t with
 |nil=>exact⟨rfl,rfl⟩
 |cons _ _ t=>
  refine⟨Y7 (· + 1) t.1,?_⟩;refine Er (List.findIdx?_cons) ?_;simp[t.2]
theorem yK:∀ {is:List Nat} {ds:List D} {fr ax:Fm},qu pin fr is ds=some ax->is.length=ds.length:=by
 intro is ds fr ax h
 induction is generalizing ds fr ax with
 |nil=>
  cases ds with
  |nil=>exact rfl
  |cons x1 x2=>exact ah h
 |cons i is ih=>
  cases ds with
  |nil=>exact ah h
  |cons d ds=>
    have h:(if pin.contains i then none else qu pin (fr.set i (.fz d)) is ds)=some ax:=h
    by_cases q:pin.contains i=true
    .rw[Y0 q]at h;exact ah h
    .rw[Y1 q]at h;exact Y7 (· + 1) (ih h)
theorem sG {d:D} {fr ax:Fm} {Q:Unit->Shared->Prop} (ok:cX A sc env y c bv ak) (hh:A.handled=none) (tg:TG sc g t) (he:asgT c.pin fr t (.fz d)=some ax) (I:Inv y own Z s.heap fr) (R:b5 s.heap Z v d)
  (K:∀s',(∃h' tk,s'={s with heap:=h',toks:=tk})->Inv y own Z s'.heap ax->Step y bv own Z s own Z s'->Q () s'):wpAny (model prog w) A (assign g env v) Q E s:=by
 cases tg with
 |@one x p i hx=>
  obtain⟨q,rfl⟩:=K2 he;obtain⟨l,hl⟩:=ok.loc hx.1;exact wpAny_assign_Name (fA ok.en hx.1 (ok.nf _ i hx.1) hl I λh' tk P=>K _ ⟨_,_,rfl⟩ (P.fz I hl R) ((P.step hl I).sub λj hj=>by refine Er (mem_singleton.mp hj) ?_;exact ok.bvi hx.1 λz=>q (contains_iff_mem.mpr z)))
 |tup t=>
  cases R with
  |@tuple a vs n ds z ht hn R=>
   refine assign_Tuple_tuple hh ⟨_,ht,rfl,_,rfl⟩ (Er t.len.1 (Er (yK he) (Er Zo (Er R.length rfl)))) t.len.2 λh' ext=>?_
   have kp:∀b o,s.heap.get? b=some o->h'.get? b=some o:=λb o e=>ext b o (ne_of_lt (ZZ e)) e
   refine uw (s:= {s with heap:=h'}) ok t (R.mono (λb o aa=>kp b o) λaa z=>z) he (I.grow kp) λs' sh I' S'=>K s' ?_ I' ((Step.grow (tk:=s.toks) kp).trans S')
   obtain⟨h2,KB,rfl⟩:=sh;exact⟨_,_,rfl⟩
  |_=>exact ah he
end
section
variable {A:Around} {E:Value->Shared->Prop} {s:Shared}
theorem ui {l:Addr} {k:Int} {t:Tok} {Q:Unit->Shared->Prop} (hl:IsL s.heap l items m)
  (h0:0<=k) (ID:k<2 ^ 63) (hn:k<items.size)
  (hQ:∀h' m',IsL h' l (items.setIfInBounds k.toNat v) m'->Heap.SameBut l s.heap h'->Q () {s with heap:=h'}):
  wpAny (model prog w) A (setItem (.ref l) (.int k t) v) Q E s:=by
 unfold setItem
 try with_reducible refine wpAny_holding ?_
 first|refine YY (YU ?_)|skip
 refine YY (wpAny_sequenceKey hl.isList.typeIs (by decide) ?_);refine YY (wpAny_callSpecial?_slot (name:=Str.ofString "__setitem__") hl.isList.typeIs slot_list_setitem
  (wpAny_call_entry slot_list_setitem hl.isList.typeIs entry_list_setitem ?_ (args_list_setitem _ _ _)))
 show wpAny _ _ (Builtin.List.listSubscript? (.int k t) >>= _) _ _ s
 refine YY (wpAny_listSubscript_int (fitsIndex_of h0 ID) ?_);clear ID;obtain⟨j,rfl⟩:=Int.eq_ofNat_of_zero_le h0;have hj:j<items.size:=by exact(Ln [j,items.size] (.w (.p 1 .x) .y) [Gi (.p 1 (.n .x)) (.n .y)] rfl hn)
 refine YY (YY (wpAny_seqItemAt hl rfl (YU ?_)));refine Er (Array.getElem?_eq_getElem hj) ?_;refine YY (wpAny_setSeqItemAt hl rfl ?_)
 first
  |exact YY (YU (YU ⟨.none,rfl,YU (hQ _ _ (IsL.update hl (·.setIfInBounds j v)) (Heap.SameBut.update ..))⟩))
  |exact YU ⟨.none,rfl,YU (hQ _ _ (IsL.update hl (·.setIfInBounds j v)) (Heap.SameBut.update ..))⟩
end
section
variable {A:Around} {c:cR} {n:Nat} {env:Env} {sc:Sc} {y:Lay}
 {bv bv':List Nat} {own ac ak ae:Addr->Option Nat} {Z aw Z₀ Z':Addr->Prop} {s s₁ s₀ s':Shared} {fr aq:Fm}
theorem jk.from {out:Except Str dH×Fm} {f:Flow} {dS:Shared} (S:Step y bv own Z s ae Z' s') (p:jk y bv s₀ ae Z' s' out f dS):jk y bv s₀ own Z s out f dS:=by
 obtain⟨k,o,z,e,I,S',r⟩:=p;exact⟨k,o,z,e,I,S.trans S',r⟩
set_option tactic.hygienic true in
theorem DE {o:Expr} (R:Rn A c n) (ok:cX A sc env y c bv ak) (hx:PE sc o i) (ce:CE sc e z) (hp:(cW.endLine==pos.line)=true):
  ly A c y bv ak Z₀ s₀ (exec (.Expr (.Call (.Attribute o "append" cW) [e] [] pos) gn) env) (.app (.var i) z):=by
 intro own Z s fr out h I S;rw[tL]at h
 split at h
 .rename_i pM
  refine ag λG6 g6=>?_
  obtain⟨Ft,xH⟩:∃Ft,cb fr (.var i)=some (.list Ft):=by
   unfold Ac at pM;split at pM
   .rename_i q;exact⟨_,q⟩
   .cases pM
  obtain⟨l,v,hl,hr,a,rfl,oa,W⟩:=I.at' i _ (bo xH) (by intro q;cases q);refine g6 ?_;refine wpAny_Expr_any (wpAny_Call_append (kK hx) (by refine Er (ce.star env []) ?_;rfl) hp (by refine Er (ce.star env []) ?_;rfl) (j8 R.gd ok.en I hx hl hr rfl λtk=>?_)) ok.ni rfl;refine ag λG7 g7=>?_
  cases W with
  |@list vs m ds hil hz RA=>
   refine g7 ?_;refine⟨a,_,rfl,⟨_,_,hil,rfl,rfl,rfl⟩,?_⟩;refine o8 (s:= {s with toks:=tk}) ok.en ce (bj R sc _ ce env y ok.en).1 h I (aQ (tk:=tk) .refl) λr ax av aR aG v bn h aF bb aY fy=>?_
   refine ag λG8 g8=>?_
   split at h
   .refine g8 ?_
    rename_i d xs hd J6
    split at h
    .rename_i da
     refine Er (aI h).symm ?_;refine ag λG g=>?_
     obtain⟨l',v',cz,EP,a',rfl,B8,W'⟩:=aF.at' i _ (bo J6) (by intro q;cases q);rw[hl]at cz;obtain rfl:=aI cz;have Iq:=bb.bind i l _ (by intro q;cases q) hl hr;refine ag λG2 g2=>?_
     obtain q:=Iq.det EP;refine g2 ?_;refine ag λG1 g1=>?_
     cases q;refine ag λG3 g3=>?_
     obtain⟨f6,gf,iJ,vA⟩:=fy.freeze aF bb hd;refine ag λG4 g4=>?_
     obtain⟨l3,v3,Ix,AX,a3,rfl,Hy,F4⟩:=gf.at' i _ (bo J6) (by intro q;cases q);rw[hl]at Ix;obtain rfl:=aI Ix;refine ag λG5 g5=>?_
     obtain q:=EP.det AX;cases q;cases F4 with
     |@list vs m ds hil hz RA=>
      refine g5 ?_;refine g4 ?_;refine g3 ?_;refine g1 ?_;refine g ?_;refine append_at (hsz:=by refine Er Zo (Er b6.symm ?_);exact hz) hil λh' pN lC=>?_
      have kz:∀b o,f6 b->aG.heap.get? b=some o->h'.get? b=some o:=λb o z e=>pN.extBut b o (λq=>by have:=gf.zo b z;rw[q]at this;have this:=Hy▸this;cases this) e
      have qw:bT h' f6 a (.list (xs++[d])):=by
       refine .list (vs:=vs++[v]) (n:=m+1) (by simpa using lC) ?_ ((RA.mono kz λaa z=>z).append (.cons (vA.mono kz λaa z=>z) .nil));refine Er ZI (Er RA.length ?_);simp;exact da
      exact⟨.next,av,f6,rfl,(cZ gf (bo J6) hl AX Hy pN qw).1,((aQ (tk:=tk) .refl).trans (iJ.sub λaa h=>by cases h)).trans ((cZ gf (bo J6) hl AX Hy pN qw).2.sub λaa h=>by cases h),rfl⟩
    .exact ah h
   .exact g8 (ah h)
 .exact ah h
set_option tactic.hygienic true in
theorem zD {ob:Expr} {p':Pos} {idx:Expr} {k:Ex} (R:Rn A c n) (ok:cX A sc env y c bv ak) (hx:PE sc ob i) (ce:CE sc value z) (ck:CE sc idx k):
  ly A c y bv ak Z₀ s₀ (exec (.Assign [.Subscript ob idx p'] value pos) env) (.setI (.var i) k z):=by
 intro own Z s fr out h I S;rw[p7]at h;refine wpAny_Assign_Subscript (o8 ok.en ce (bj R sc _ ce env y ok.en).1 h I .refl λr aq ac aw s₁ v bn h ai bb S' BO=>?_) (uc ce)
 split at h
 .refine ag λG4 g4=>?_
  rename_i pM;refine g4 ?_;refine ag λG3 g3=>?_
  refine aX (isSome_iff_exists.mp pM) λFt xH=>?_
  refine ag λG5 g5=>?_
  obtain⟨l,Ky,hl,hr,a,rfl,oa,W⟩:=ai.at' i _ (bo xH) (by intro q;cases q);refine g5 ?_;refine g3 ?_;refine j8 R.gd ok.en ai hx hl hr rfl λtk=>?_
  refine o8 (s:= {s₁ with toks:=tk}) ok.en ck (bj R sc _ ck env y ok.en).1 h ai (aQ (tk:=tk) S') λrk ax av aR aG vk j0 h aF aY GK fy=>?_
  split at h
  .rename_i d kd o hd M6 ho
   split at h
   .refine ag λG g=>?_
    rename_i o' eP;refine g ?_;refine Er (aI h).symm ?_;refine ag λG2 g2=>?_
    obtain⟨f6,gf,iJ,vA⟩:=(aY.rv ai (dT hd) BO).freeze aF ((aQ (tk:=tk) bb).trans aY) hd;obtain⟨l3,v3,Ix,AX,a3,rfl,Hy,F4⟩:=gf.at' i _ (bo ho) (by intro q;cases q);rw[hl]at Ix;obtain rfl:=aI Ix;obtain q:=(aY.bind i l _ (by intro q;cases q) hl hr).det AX;cases q;have GB:=Hy;cases F4 with
    |@list vs m xs hil hz RA=>
     refine g2 ?_;cases kd with
     |int j=>
      obtain⟨t,rfl⟩:=(fy.dat aF (cG M6)).int;have eP:(if 0<=j/\j<xs.length then _ else none)=some _:=eP
      split at eP
      .rename_i hj
       refine Er (aI eP).symm ?_;have M8:j<vs.toArray.size:=by exact Er Zo (Er RA.length hj.2)
       have O2:=hz;have Ly:j<vs.length:=by exact M8
       refine ui hil hj.1 (bC [vs.length] [j] 1 (.i (.p 1 .x) (.c 9223372036854775808)) [Gl .x (.c 16777216),Gi (.p 1 .x) (.n .x)] rfl hz Ly) M8 λh' m' Iz pN=>?_
       have kz:∀b o,f6 b->aG.heap.get? b=some o->h'.get? b=some o:=λb o z e=>pN.extBut b o (λq=>by have:=gf.zo b z;rw[q]at this;have this:=GB▸this;cases this) e
       have qw:bT h' f6 a (.list (xs.set j.toNat d)):=by
        refine .list (vs:=vs.set j.toNat v) (n:=m') ?_ (by refine Er List.length_set ?_;exact hz) ((RA.mono kz λaa z=>z).set j.toNat (vA.mono kz λaa z=>z));rw[show vs.toArray.setIfInBounds j.toNat v=(vs.set j.toNat v).toArray from by simp]at Iz;exact Iz
       exact⟨.next,av,f6,rfl,(cZ gf (bo ho) hl AX GB pN qw).1,(iJ.sub λaa h=>by cases h).trans ((cZ gf (bo ho) hl AX GB pN qw).2.sub λaa h=>by cases h),rfl⟩
      .exact ah eP
     |none=>exact ah eP
     |bool b=>exact ah eP
     |str b=>exact ah eP
     |list b=>exact ah eP
     |tuple b=>exact ah eP
     |dict b=>exact ah eP
    |@dict kvs ds gA hz RK=>
     refine g2 ?_;cases kd with
     |str k=>
      obtain⟨t,rfl,NX,NW⟩:=(fy.dat aF (cG M6)).str;have eP:(if ds.length<Sz then _ else none)=some _:=eP
      split at eP
      .rename_i hj
       refine Er (aI eP).symm ?_;refine wpAny_setItem_pairs (knd:=strKind prog w) (strKind_is _ _ k t) gA.2 (λh' c5 pN=>?_) (by refine Er b6.symm ?_;exact hz);have kz:∀b o,f6 b->aG.heap.get? b=some o->h'.get? b=some o:=λb o z e=>pN.extBut b o (λq=>by have:=gf.zo b z;rw[q]at this;have this:=GB▸this;cases this) e
       have Nx:=(RK.mono kz λaa z=>z).set NX NW (vA.mono kz λaa z=>z);have qw:bT h' f6 a (.dict (fH ds k d)):=.dict ⟨gA.1,c5⟩ (by refine Er Nx.length ?_;exact Zh (uZ k d ds) hj) Nx;refine ag λG1 g1=>?_
       refine g1 ?_;exact⟨.next,av,f6,rfl,(cZ gf (bo ho) hl AX GB pN qw).1,aQ ((iJ.sub λaa h=>by cases h).trans ((cZ gf (bo ho) hl AX GB pN qw).2.sub λaa h=>by cases h)),rfl⟩
      .exact ah eP
     |none=>exact ah eP
     |bool b=>exact ah eP
     |int b=>exact ah eP
     |list b=>exact ah eP
     |tuple b=>exact ah eP
     |dict b=>exact ah eP
   .exact ah h
  .exact ah h
 .exact ah h
theorem DC (R:Rn A c n) (ok:cX A sc env y c bv ak) (ce:CE sc e z) (hc:dK e=true):ly A c y bv ak Z₀ s₀ (exec (.Expr e pos) env) (.exp z):=by
 intro own Z s fr out h I S;rw[tK]at h;refine wpAny_Expr_any (o8 ok.en ce (bj R sc _ ce env y ok.en).1 h I .refl λr aq ac aw s₁ v bn h ai bb S' BO=>?_) ok.ni (eU ce hc);exact Er (aI h).symm (⟨.next,ac,aw,rfl,ai,S',rfl⟩)
set_option tactic.hygienic true in
theorem Dw (R:Rn A c n) (ok:cX A sc env y c bv ak) (ce:CE sc e z):ly A c y bv ak Z₀ s₀ (exec (.Return (some e) pos) env) (.ret z):=by
 intro own Z s fr out h I S;rw[tF]at h;refine wpAny_Return_some (o8 ok.en ce (bj R sc _ ce env y ok.en).1 h I .refl λr aq ac aw s₁ v bn h ai bb S' BO=>?_)
 split at h
 .exact ah h
 .rename_i df
  refine Er (aI h).symm ?_;refine⟨.ret r,ac,aw,rfl,ai,S',v,rfl,BO.since S.old,?_⟩
  rcases yf bn with q|⟨p,rfl,_⟩
  .exact q
  .exact absurd rfl (df p)
theorem zE:ly A c y bv ak Z₀ s₀ (exec (.Return none pos) env) (.ret (.lit .none)):=by
 intro own Z s fr out h I S;exact Er (aI h).symm (wpAny_Return_none ⟨.ret (.fz .none),own,Z,rfl,I,.refl,.none,rfl,.none,_,rfl⟩)
theorem Dx:SS A c y bv ak Z₀ s₀ (execs [] env) []:=by
 intro own Z s fr out h I S;exact Er (aI h).symm (wpAny_execs_nil ⟨.next,own,Z,rfl,I,.refl,rfl⟩)
theorem zG {st:Stmt} {ss:List Stmt} {z:St} {zs:List St} (H1:ly A c y bv ak Z₀ s₀ (exec st env) z) (H2:SS A c y bv ak Z₀ s₀ (execs ss env) zs):SS A c y bv ak Z₀ s₀ (execs (st::ss) env) (z::zs):=by
 intro own Z s fr out h I S;rw[jG]at h;refine wpAny_execs_cons ?_;refine ag λG g=>?_
 rcases be h with⟨e,f,hm,rfl⟩|⟨k,f,hm,h⟩
 .refine g ?_
  refine YW (H1 own Z s fr _ hm I S) (λfl s' p=>?_) λaa aA x=>x
  obtain⟨_,_,_,q,_⟩:=p;exact iX q
 .refine g ?_
  refine YW (H1 own Z s fr _ hm I S) (λfl s' p=>?_) λaa aA x=>x.elim
  obtain⟨k',ae,Z',q,I',S',r⟩:=p;obtain rfl:=iE q;cases k with
  |next=>
   cases r;refine YW (H2 ae Z' s' f out h I' (S.trans S')) (λfl dS p=>?_) λaa aA x=>x.sub (λaa h=>h) S'
   exact p.from S'
  |ret rv=>
   refine Er (aI h).symm ?_;obtain⟨v,r⟩:=r;exact Er r.1 (⟨.ret rv,ae,Z',rfl,I',S',v,rfl,r.2⟩)
set_option tactic.hygienic true in
theorem DA {t:Expr} {a b:List Stmt} {xa xb:List St} (R:Rn A c n) (ok:cX A sc env y c bv ak) (ce:CE sc t z) (Ha:SS A c y bv ak Z₀ s₀ (execs a env) xa) (Hb:SS A c y bv ak Z₀ s₀ (execs b env) xb):
  ly A c y bv ak Z₀ s₀ (exec (.If t a b pos) env) (.iff z xa xb):=by
 intro own Z s fr out h I S;rw[tI]at h;refine wpAny_If (vX ok.en ce (bj R sc _ ce env y ok.en).2 h I .refl (λr ax h=>?_) λr d ax av aR aG h hd aF aY=>?_)
 .split at h
  .exact⟨_,by assumption⟩
  .exact ah h
 .have h:=hd▸h
  dsimp only at h
  split at h
  .rename_i ht;rw[Y0 ht];exact YW (Ha av aR aG ax out h aF (S.trans aY)) (λfl dS p=>p.from aY) λaa aA x=>x.sub (λaa h=>h) aY
  .rename_i ht;rw[Y1 ht];exact YW (Hb av aR aG ax out h aF (S.trans aY)) (λfl dS p=>p.from aY) λaa aA x=>x.sub (λaa h=>h) aY
theorem ly.of {m:Sem Flow} {z:St} (H:∀(own:Addr->Option Nat) (Z:Addr->Prop) (s:Shared) (fr:Fm) (out:Except Str dH×Fm) (Q:Flow->Shared->Prop) (E:Value->Shared->Prop),(∀f s',jk y bv s₀ own Z s out f s'->Q f s')->(∀e s',aV y bv own Z s out e s'->E e s')->
  mB c z fr=some out->Inv y own Z s.heap fr->Step y bv ak Z₀ s₀ own Z s->wpAny (model prog w) A m Q E s):ly A c y bv ak Z₀ s₀ m z:=λown Z s fr out h I S=>H own Z s fr out _ _ (λaa aA p=>p) (λaa aA p=>p) h I S
inductive JV (y:Lay) (bv:List Nat) (own:Addr->Option Nat) (Z:Addr->Prop) (s:Shared) (items:List D) (fp wr:List Addr) (P:Nat->Value->Prop) (St:Nat->Heap->Prop) (c:cR) (t:Tgt) (xb:List Mv.St) (cD:List Nat) (out:Except Str dH×Fm) (m:Nat) (s':Shared):Prop
 |mk (k:Nat) (ae:Addr->Option Nat) (Z':Addr->Prop) (cT:Fm):m=items.length+1-k->k<=items.length->Inv y ae Z' s'.heap cT->Step y bv own Z s ae Z' s'->hW y items fp wr P St s.heap ae Z' s'.heap k->
   cU c cT t xb cD (items.drop k)=some out->JV y bv own Z s items fp wr P St c t xb cD out m s'
set_option tactic.hygienic true in
theorem DB {it:iN} {xb:List St} (R:Rn A c n) (ok:cX A sc env y c bv ak) (tg:TG sc g t) (de:IT sc iter it b8) (Hb:SS A c y bv ak Z₀ s₀ (execs body env) xb):
  ly A c y bv ak Z₀ s₀ (exec (.For g iter body [] pos) env) (.for_ t it b8 xb cD):=by
 refine ly.of λown Z s fr out Q E kQ kE h I S=>?_
 rw[tJ]at h;cases fL:c.hd with
 |true=>have h:=fL▸h;exact ah h
 |false=>
 rw[fL,Y1 Z7]at h;refine wpAny_For ?_ (de.noFold env);refine ag λG g1=>?_
 rcases be h with⟨e,f,hm,rfl⟩|⟨rs,aq,hm,h⟩
 .refine g1 ?_
  refine YW ((bj R _ _ de env y ok.en) own Z s fr _ hm (λrs q=>by exact iX q) fL I) (λx s₁ p=>YW p (λGD aG p=>?_) λaa aA x=>kE _ _ ((x.strong ok.en (fb sc _ de) .refl).up (λaa h=>h) .refl)) λaa aA x=>kE _ _ ((x.strong ok.en (fb sc _ de) .refl).up (λaa h=>h) .refl)
  obtain⟨_,_,_,_,_,_,_,_,_,_,q,_⟩:=p;exact iX q
 .refine g1 ?_
  split at h
  .exact ah h
  .refine ag λG2 g3=>?_
   rename_i ds gA
   split at h
   .exact g3 (ah h)
   .refine g3 ?_
    rename_i items k9;refine YW ((bj R _ _ de env y ok.en) own Z s fr _ hm (λrs q=>by refine Er (iE q).symm ?_;exact⟨ds,items,gA,k9⟩) fL I) (λxv s₁ p=>YW p (λGD aG p=>?_) λaa aA x=>x.elim) λaa aA x=>x.elim
    obtain⟨JZ,No,EH,ac,aw,It,fp,wr,P,St,q,xI,pQ,da,rfl,aF,aY,W,WA⟩:=p;refine ag λG1 g2=>?_
    obtain rfl:=iE q;rw[gA]at xI;obtain rfl:=aI xI;rw[k9]at pQ;obtain rfl:=aI pQ;refine g2 ?_;refine EX (JV y bv own Z s items fp wr P St c t xb cD out) λJ je ji=>?_
    refine codeAny_forLoop_any J ?_ (items.length+1) (ji _ _ ⟨0,ac,aw,aq,rfl,Zc _,aF,((aY.strong ok.en (fb sc _ de)).sub λaa h=>by cases h),WA,by refine Er drop_zero ?_;exact h⟩);intro m s' jq;obtain⟨k,ae,Z',cT,rfl,hk,I',S',CV,hh⟩:=je _ _ jq;clear jq je
    by_cases th:k<items.length
    .have hd:items[k]? = some items[k]:=ZK th
     rw[List.drop_eq_getElem_cons th]at hh;generalize items[k]=d at hd hh;rw[ms]at hh;refine l6 W CV I' S' hd (λaa aA p=>p) λval qP yQ aa tX tW BQ sw aA bF=>?_
     split at hh
     .exact ah hh
     .rename_i tu he
      refine sG ok (R.hh fL) tg he (BQ.clr cD) tX λoU aa f9 qy=>?_
      have qx:=sw.trans qy;refine ag λG3 g4=>?_
      rcases be hh with⟨e,f,hm,rfl⟩|⟨kk,f,hm,hh⟩
      .exact g4 (YW (Hb ae yQ oU tu _ hm f9 (S.trans qx)) (λfl qO p=>by obtain⟨_,_,_,q,_⟩:=p;exact iX q) λaa aA x=>kM ok.en kE (x.up (λaa h=>h) qx))
      .refine g4 ?_
       refine YW (Hb ae yQ oU tu _ hm f9 (S.trans qx)) (λfl qO p=>?_) λaa aA x=>x.elim
       obtain⟨k',fR,oD,q,jL,lx,r⟩:=p;obtain rfl:=iE q;dsimp only at jL;cases kk with
       |next=>
        cases r;exact⟨items.length+1-(k+1),km hk,ji _ _ ⟨k+1,fR,oD,f,rfl,th,jL,qx.trans lx,(tW.step W (BQ.clr cD) qy).step W f9 lx,hh⟩⟩
       |ret rv=>
        obtain rfl:=aI hh;obtain⟨v,r⟩:=r;exact Er r.1 (kQ _ _ ⟨.ret rv,fR,oD,rfl,jL,qx.trans lx,v,rfl,r.2⟩)
    .have Lx:k=items.length:=Zk hk (Nat.not_lt.mp th)
     subst Lx;have hh:=List.drop_length▸hh;rw[bN]at hh;obtain rfl:=aI hh;refine l7 W CV I' S' λdS y1 GK kp aa=>wpAny_execs_nil (kQ _ _ ⟨.next,ae,Z',rfl,y1.clr cD,GK,rfl⟩)
inductive JI (y:Lay) (bv:List Nat) (own:Addr->Option Nat) (Z:Addr->Prop) (s:Shared) (c:cR) (z:Ex) (xb:List Mv.St) (cD:List Nat) (out:Except Str dH×Fm) (m:Nat) (s':Shared):Prop
 |mk (ae:Addr->Option Nat) (Z':Addr->Prop) (cT:Fm):Inv y ae Z' s'.heap cT->Step y bv own Z s ae Z' s'->vE c cT z xb cD m=some out->JI y bv own Z s c z xb cD out m s'
theorem Dt {t:Expr} {xb:List St} (R:Rn A c n) (ok:cX A sc env y c bv ak) (ce:CE sc t z) (Hb:SS A c y bv ak Z₀ s₀ (execs body env) xb):
  ly A c y bv ak Z₀ s₀ (exec (.While t body [] pos) env) (.whl z xb cD):=by
 refine ly.of λown Z s fr out Q E kQ kE h I S=>?_
 rw[tB]at h;cases fL:c.hd with
 |true=>rw[fL]at h;exact ah h
 |false=>
 rw[fL]at h;have h:=(Y1 Z7)▸h;refine EX (JI y bv own Z s c z xb cD out) λJ je ji=>?_
 refine wpAny_While (codeAny_whileLoop J (λm s' hI=>?_) Wz (ji _ _ ⟨own,Z,fr,I,.refl,h⟩));obtain⟨ae,Z',cT,I',S',hh⟩:=je _ _ hI;clear hI je;cases m with
 |zero=>exact ah hh
 |succ m=>
  rw[oM]at hh
  rcases be hh with⟨e,f,hm,rfl⟩|⟨b,f,hm,hh⟩
  .exact YW (vX (Q:=λaa aA=>False) (bv:=bv) ok.en ce (bj R sc _ ce env y ok.en).2 hm (I'.clr cD) .refl (λr ax h=>by cases hd:cj ax r with
    |none=>rw[hd]at h;exact ah h
    |some d=>exact⟨d,rfl⟩) λr d ax av aR aG h hd aF aY=>by have h:=hd▸h;cases h) (λaa aA q=>q.elim) λaa aA x=>kM ok.en kE (x.up (λaa h=>h) S')
  refine YW (vX (bv:=bv) ok.en ce (bj R sc _ ce env y ok.en).2 hm (I'.clr cD) .refl (λr ax h=>?_) λr d ax av aR aG h hd aF aY=>?_) (λaa aA q=>q) λaa aA x=>x.elim
  .cases hd:cj ax r with
   |none=>rw[hd]at h;exact ah h
   |some d=>exact⟨d,rfl⟩
  .rw[hd]at h
   have u:=sU h;obtain rfl:=u.1;obtain rfl:=u.2;have ir:=S'.trans aY;cases hb:tD d with
   |false=>
    rw[hb]at hh;obtain rfl:=aI hh;exact Er (Y1 Z7) (wpAny_execs_nil (kQ _ _ ⟨.next,av,aR,rfl,aF,ir,rfl⟩))
   |true=>
    have hh:=hb▸hh;refine Er (Y0 rfl) ?_
    rcases be hh with⟨e,f',mn,rfl⟩|⟨kk,f',mn,hh⟩
    .exact YW (Hb av aR aG _ _ mn aF (S.trans ir)) (λfl qO p=>by obtain⟨_,_,_,q,_⟩:=p;exact iX q) λaa aA x=>kM ok.en kE (x.up (λaa h=>h) ir)
    refine YW (Hb av aR aG _ _ mn aF (S.trans ir)) (λfl qO p=>?_) λaa aA x=>x.elim
    obtain⟨k',fR,oD,q,jL,lx,r⟩:=p;obtain rfl:=iE q;cases kk with
    |next=>
     cases r;exact⟨m,lt_succ_self m,ji _ _ ⟨fR,oD,f',jL,ir.trans lx,hh⟩⟩
    |ret rv=>
     obtain rfl:=aI hh;obtain⟨v,r⟩:=r;exact Er r.1 (kQ _ _ ⟨.ret rv,fR,oD,rfl,jL,ir.trans lx,v,rfl,r.2⟩)
theorem Step.to {bw:List Nat} (S:Step y bw own Z s ae Z' s') (en:aN A sc env y) (h:∀i∈bw,i∈bv\/sc.hi<=i):Step y bv own Z s ae Z' s':=
 {S with bind:=λi l v n hl r=>S.bind i l v (λq=>(h i q).elim n λq=>absurd (en.hi i l hl) (Nat.not_lt.mpr q)) hl r}
theorem aV.to {bw:List Nat} {f:Fm} {e:Value} (x:aV y bw own Z s ((.error nm:Except Str β),f) e s') (en:aN A sc env y) (h:∀i∈bw,i∈bv\/sc.hi<=i):aV y bv own Z s ((.error nm:Except Str γ),f) e s':=by
 refine ag λG g=>?_
 obtain⟨Ai,a,ae,Z',q,e1,I,S',X⟩:=x;cases q;exact g (⟨_,a,ae,Z',rfl,e1,I,S'.to en h,X⟩)
set_option tactic.hygienic true in
theorem Dv {o:Expr} (R:Rn A c n) (ok:cX A sc env y c bv ak) (hx:PE sc o i) (hp:(cW.endLine==pos.line)=true):
  ly A c y bv ak Z₀ s₀ (exec (.Expr (.Call (.Attribute o "reverse" cW) [] [] pos) gn) env) (.rev (.var i)):=by
 intro own Z s fr out h I S;rw[tE]at h;cases q:cb fr (.var i) with
 |none=>rw[q]at h;exact ah h
 |some d=>
 rw[q]at h;refine ag λG g=>?_
 cases d<;>first|exact ah h|skip
 refine ag λG3 g3=>?_
 rename_i xs;refine g3 ?_;refine ag λG2 g2=>?_
 obtain rfl:=aI (show some ((Except.ok dH.next:Except Str dH),fr.set i (.own (.list xs.reverse)))=some out from h);refine g2 ?_;refine ag λG1 g1=>?_
 obtain⟨l,v,hl,hr,a,rfl,oa,W⟩:=I.at' i _ (bo q) (by intro q;cases q);refine g1 ?_;refine g ?_;refine wpAny_Expr_any (wpAny_Call_method0_late (kK hx) hp (j8 R.gd ok.en I hx hl hr rfl λtk=>?_)) ok.ni rfl;refine ag λG4 g4=>?_
 cases W with
 |@list vs m ds hil hz RA=>
  refine g4 ?_;refine ⟨"list","list.reverse",PySem.F.plainAttrs_list,PySem.F.slot_list_reverse,PySem.F.type_list_reverse,⟨_,hil,rfl⟩,(fun b e=>by cases e; exact ⟨_,hil,rfl⟩),?_⟩;refine PySem.P.reverse_list (s:= {s with toks:=tk}) hil ?_ (by refine Er Zo (Er b6.symm ?_); exact hz);have up:=IsL.update hil fun x=>x.reverse
  generalize hH:s.heap.update a (Obj.mapSeq λx=>x.reverse)=H at up;have sb:=hH▸Heap.SameBut.update ..;have kz:∀b o,Z b->s.heap.get? b=some o->H.get? b=some o:=λb o z e=>sb.extBut b o (λq=>by have:=I.zo b z;rw[q]at this;have this:=oa▸this;cases this) e
  rw[show vs.toArray.reverse=vs.reverse.toArray from List.reverse_toArray]at up;have W':bT H Z a (.list xs.reverse):=.list up (by refine Er ZD ?_;exact hz) (RA.mono kz λaa z=>z).reverse;exact⟨.next,own,Z,rfl,(cZ I (bo q) hl hr oa sb W').1,aQ (tk:=tk) ((cZ I (bo q) hl hr oa sb W').2.sub λaa h=>by cases h),rfl⟩
set_option tactic.hygienic true in
theorem Dz {f:Nat} {d:DefRec} {x:Str} {p ap pos gn:Pos} {es:List Expr} {xs:List Ex} (R:Rn A c n) (ok:cX A sc env y c bv ak) (hf:tb.fn[f]? = some d∧tb.m0≤f) (hx:x = sc.sn∧(x == ("__debug__" :Str)) = false∧sc.ats≠ []) (hl:(ap.endLine == pos.line) = true) (yE:lA sc es xs) (hn:es.length≤28) :
  ly A c y bv ak Z₀ s₀ (exec (.Expr (.Call (.Attribute (.Name x p) d.name ap) es [] pos) gn) env) (.mst f sc.as (sM (kI f) sc.as) xs):=by
 intro own Z s fr out h I S;rw[tH]at h;refine fM (ok.en.ins hx.2.2) λpp dx J=>?_
 have F:=(bj R sc _ yE env y ok.en).imp λaa aA h=>(⟨h.1,h.2.1⟩:CE sc _ _/\SE A c y _ _)
 refine wpAny_Expr_any (m3 rfl F hn hl (gU J ok.en I hx.1 hx.2.1 λpl=>sW R ok.en J hx.2.2 hf F I h (λe s' p=>p.strong ok.en (fb sc _ yE) .refl) λrs aq h=>?_)) ok.ni rfl
 split at h
 .exact ah h
 .refine ag λG g=>?_
  rename_i hp;have hb:∀i∈sM (kI f) sc.as++bf xs,i∈bv\/sc.hi<=i:=λi hi=>(mem_append.mp hi).elim (λhi=>by
   by_cases q:sc.hi<=i
   .exact .inr q
   .exact .inl (ok.bv i (λhq=>hp (any_eq_true.mpr ⟨i,hi,contains_iff_mem.mpr hq⟩)) (Nat.not_le.mp q))) λhi=>.inr (fb sc _ yE i hi)
  rcases be h with⟨e,f',hm,rfl⟩|⟨r,f',hm,h⟩
  .refine g ?_
   refine⟨_,hm,λv s' p=>?_,λe s' p=>p.to ok.en hb⟩;obtain⟨_,_,_,q,_⟩:=p;exact iX q
  .refine g ?_
   refine Er (aI h).symm ?_;refine⟨_,hm,λv s' p=>?_,λe s' p=>p.elim⟩;obtain⟨_,ae,Z',q,I',S',_⟩:=p;exact⟨.next,ae,Z',rfl,I',S'.to ok.en hb,rfl⟩
end
noncomputable def hU (dx L:Addr) (x:Str):List Loc:=tb.an.map (Loc.attr dx tb.an)++[.dict L x]
noncomputable def Lay.more (y:Lay) (i:Nat) (ls:List Loc) (p:Addr×Obj):Lay:= {y with loc:=λj=>if i<=j then ls[j-i]? else y.loc j,si:=i+tb.an.length,slf:=some p}
section
variable {A:Around} {c:cR} {n:Nat} {env:Env} {sc:Sc} {y:Lay} {i j k:Nat} {l:Loc} {ls:List Loc} {p:Addr×Obj} {dx L a:Addr} {x:Str}
 {bv bv':List Nat} {own ac ak ae av jw:Addr->Option Nat} {Z aw Z₀ Z' aR f6:Addr->Prop} {s s₁ s₀ s' aG iO:Shared} {fr aq:Fm} {h:Heap}
theorem bg (h:(y.more i ls p).loc j=some l):(i<=j/\ls[j-i]? = some l)\/(j<i/\y.loc j=some l):=by
 have h:(if i<=j then ls[j-i]? else y.loc j)=some l:=h
 by_cases q:i<=j
 .rw[Y0 q]at h;exact .inl ⟨q,h⟩
 .rw[Y1 q]at h;exact .inr ⟨Nat.not_le.mp q,h⟩
theorem dh (hi:∀j l,y.loc j=some l->j<i) (h:y.loc j=some l):(y.more i ls p).loc j=some l:=(Y1 (Nat.not_le.mpr (hi j l h))).trans h
theorem gS (h:ls[k]? = some l):(y.more i ls p).loc (i+k)=some l:=by
 show(if i<=i+k then ls[i+k-i]? else _)=_
 refine Er (Y0 (Zl i k)) ?_;rw[Zm];exact h
theorem bE (h:(hU dx L x)[k]? = some l):(∃a,tb.an[k]? = some a/\l = .attr dx tb.an a)\/(k=tb.an.length/\l = .dict L x):=by
 unfold hU at h
 rcases Nat.lt_or_ge k tb.an.length with q|q
 .rw[ZM (by rw[ZG];exact q),ZJ]at h
  refine aX (Z9 h) λa Q=>?_;refine Er Q.2.symm ?_
  exact .inl ⟨a,Q.1,rfl⟩
 .rw[ZL (by rw[ZG];exact q),ZG]at h
  cases e:k-tb.an.length with
  |zero=>rw[e]at h;refine Er (aI h) ?_;exact .inr ⟨Zk (Nat.sub_eq_zero_iff_le.mp e) q,rfl⟩
  |succ m=>have h:=e▸h;exact ah h
theorem gW (h:(hU dx L x)[k]? = some l):l.addr=dx\/l.addr=L:=by
 rcases bE h with⟨a,_,rfl⟩|⟨_,rfl⟩
 .exact .inl rfl
 .exact .inr rfl
theorem z7 (r:eG h l v):∃o,h.get? l.addr=some o:=by
 cases l with
 |dict a x=>obtain⟨m,⟨o,_,_,e,_⟩,_⟩:=r;exact⟨o,e⟩
 |cell a=>refine aX r λo r=>?_;have e:=r.1;exact⟨o,e⟩
 |attr a ns x=>obtain⟨m,⟨⟨o,_,_,e,_⟩,_⟩,_⟩:=r;exact⟨o,e⟩
theorem Step.more (S:Step y bv ak Z₀ s₀ own Z s) (hi:∀j l,y.loc j=some l->j<i) (hb:∀j∈bv,j∈bv') (hn:∀(k:Nat) l,ls[k]? = some l->s₀.heap.get? l.addr=none\/i+k∈bv'):Step (y.more i ls p) bv' ak Z₀ s₀ own Z s where
 sh:=S.sh
 ext:=⟨λa o e w f=>S.ext.keep a o e (λq=>w (by
   rcases q with q|q|⟨j,k,hk,rfl⟩
   .exact .inl q
   .exact .inr (.inl q)
   .exact .inr (.inr ⟨j,k,dh hi hk,rfl⟩))) f,S.ext.live,S.ext.fram⟩
 zm:=S.zm
 zn:=S.zn
 on:=S.on
 bind:=λj l v nb hl r=>by
  rcases bg hl with⟨hj,q⟩|⟨hj,hl⟩
  .rcases hn _ l q with e|e
   .refine aX (z7 r) λo e'=>?_;rw[e]at e';exact ah e'
   .rw[Zn hj]at e;exact absurd e nb
  .exact S.bind j l v (λq=>nb (hb j q)) hl r
theorem Step.thru (S:Step y bv own Z s av aR aG) (S2:Step (y.more i ls p) bv' av aR aG jw f6 iO) (hi:∀j l,y.loc j=some l->j<i) (hb:∀j∈bv',j∈bv\/i<=j) (hn:∀(k:Nat) l,ls[k]? = some l->l.addr=y.L\/s.heap.get? l.addr=none):Step y bv own Z s jw f6 iO where
 sh:=by refine fM S.sh λh1 t1 e=>?_;refine fM S2.sh λh2 t2 e'=>?_;subst e;exact⟨h2,t2,e'⟩
 ext:=⟨λa o e w f=>S2.ext.keep a o (S.ext.keep a o e w f) (λq=>by
   rcases q with q|q|⟨j,k,hk,rfl⟩
   .cases e2:av a with
    |none=>exact q e2
    |some m=>
     rcases S.on a m e2 with e3|e3
     .exact w (.inl (by refine Er e3 ?_;exact λn=>by cases n))
     .have e:=e3▸e;exact ah e
   .exact w (.inr (.inl q))
   .rcases bg hk with⟨_,hk⟩|⟨_,hk⟩
    .rcases hn _ k hk with q|q
     .exact w (.inr (.inl q))
     .have e:=q▸e;exact ah e
    .exact w (.inr (.inr ⟨j,k,hk,rfl⟩))) f,λa o e=>let ⟨o',e'⟩:=S.ext.live a o e;S2.ext.live a o' e',λa o f e=>let ⟨sl,e'⟩:=S.ext.fram a o f e;let ⟨qU,Bm⟩:=S2.ext.fram a _ f e';⟨qU,Bm⟩⟩
 zm:=λa z=>S2.zm a (S.zm a z)
 zn:=λa z=>by
  rcases S2.zn a z with z|z|z
  .exact S.zn a z
  .cases e:av a with
   |none=>exact absurd e z
   |some m=>exact(S.on a m e).elim (λq=>.inr (.inl (by refine Er q ?_;exact λn=>by cases n))) λq=>.inr (.inr q)
  .exact .inr (.inr (S.old a z))
 on:=λa m e=>(S2.on a m e).elim (S.on a m) λq=>.inr (S.old a q)
 bind:=λj l v nb hl r=>S2.bind j l v (λq=>(hb j q).elim nb λq=>absurd (hi j l hl) (Nat.not_lt.mpr q)) (dh hi hl) (S.bind j l v nb hl r)
theorem Inv.unmore (I:Inv (y.more i ls p) own Z h fr) (wf:y.Wf) (hi:∀j l,y.loc j=some l->j<i) (hs:y.slf=none) (hf:∀j,i<=j->j<i+ls.length-> ∀sl,fr[j]? = some sl->sl = .no):Inv y own Z h fr where
 wf:=wf
 base:=I.base
 zb:=I.zb
 zo:=I.zo
 zl:=λj k hk=>I.zl j k (dh hi hk)
 ol:=λj k hk=>I.ol j k (dh hi hk)
 zL:=I.zL
 oL:=I.oL
 zF:=I.zF
 oF:=I.oF
 zlv:=I.zlv
 olv:=I.olv
 flv:=I.flv
 ok:=λj k hk=>I.ok j k (dh hi hk)
 nsL:=I.nsL
 sf:=λp e=>by have e:=hs▸e;exact ah e
 at':=λj sl e n=>by
  obtain⟨k,v,hk,r1,r⟩:=I.at' j sl e n
  rcases bg hk with⟨hj,q⟩|⟨hj,hk⟩
  .exact absurd (hf j hj (by refine Er (Zn hj).symm ?_;exact Nat.add_lt_add_left (List.getElem?_eq_some_iff.mp q).1 i) sl e) n
  .exact⟨k,v,hk,r1,r⟩
theorem zh (wf:y.Wf) (hi:∀j l,y.loc j=some l->j<i) (hx:∀j,y.loc j≠some (.dict y.L x)) (hd:∀j l,y.loc j=some l->l.addr≠dx) (hL:dx≠y.L) (hF:¬y.F dx) (nd:tb.an.Nodup):(y.more i (hU dx y.L x) p).Wf where
 apart:=λj j' k k' hk eF df hq=>by
  rcases bg hk with⟨h1,e1⟩|⟨h1,e1⟩<;>rcases bg eF with⟨h2,e2⟩|⟨h2,e2⟩
  .rcases bE e1 with⟨a,ha,rfl⟩|⟨ha,rfl⟩<;>rcases bE e2 with⟨b,hb,rfl⟩|⟨hb,rfl⟩
   .refine .attr dx tb.an a b rfl rfl λq=>df ?_
    subst q;have:=(List.getElem_inj (h₀:=(List.getElem?_eq_some_iff.mp ha).1) (h₁:=(List.getElem?_eq_some_iff.mp hb).1) nd).mp ((List.getElem?_eq_some_iff.mp ha).2.trans (List.getElem?_eq_some_iff.mp hb).2.symm);exact Er (Zd h1).symm (Er this (Er (Zd h2) rfl))
   .exact absurd hq hL
   .exact absurd hq.symm hL
   .exact absurd (Er (Zd h1).symm (Er ha (Er hb.symm (Er (Zd h2) rfl)))) df
  .rcases bE e1 with⟨a,ha,rfl⟩|⟨ha,rfl⟩
   .exact absurd hq.symm (hd _ _ e2)
   .cases k' with
    |dict b z=>cases hq;exact .dict _ x z rfl rfl λq=>hx j' (q▸e2)
    |cell b=>exact absurd hq.symm (wf.cl _ _ e2)
    |attr b ns z=>exact absurd hq.symm (wf.al _ _ _ _ e2)
  .rcases bE e2 with⟨a,ha,rfl⟩|⟨ha,rfl⟩
   .exact absurd hq (hd _ _ e1)
   .cases k with
    |dict b z=>cases hq;exact .dict _ z x rfl rfl λq=>hx j (q▸e1)
    |cell b=>exact absurd hq (wf.cl _ _ e1)
    |attr b ns z=>exact absurd hq (wf.al _ _ _ _ e1)
  .exact wf.apart j j' k k' e1 e2 df hq
 nf:=λj k hk=>by
  refine ag λG1 g1=>?_
  rcases bg hk with⟨_,e⟩|⟨_,e⟩
  .refine g1 ?_
   rcases gW e with q|q<;>refine Er q ?_
   .exact hF
   .exact wf.nL
  .refine g1 ?_
   exact wf.nf j k e
 nL:=wf.nL
 cl:=λj a hk=>by
  refine ag λG g=>?_
  rcases bg hk with⟨_,e⟩|⟨_,e⟩
  .refine g ?_
   rcases bE e with⟨_,_,q⟩|⟨_,q⟩<;>cases q
  .exact g (wf.cl j a e)
 al:=λj a ns z hk=>by
  rcases bg hk with⟨_,e⟩|⟨_,e⟩
  .rcases bE e with⟨_,_,q⟩|⟨_,q⟩<;>cases q
   exact hL
  .exact wf.al j a ns z e
theorem dM:(b4 sc).length=tb.an.length:=by unfold b4;rw[ZG,ZE]
theorem jB {k j:Nat} (h:(b4 sc)[k]? = some j):k<tb.an.length/\j=sc.hi+k:=by
 unfold b4 at h;rw[ZJ]at h;refine aX (Z9 h) λm q=>?_;refine Er q.2.symm ?_
 obtain⟨h1,h2⟩:=List.getElem?_eq_some_iff.mp q.1;rw[ZE]at h1;rw[getElem_range]at h2;exact⟨h1,by exact Er h2 rfl⟩
theorem ma {k:Nat} (h:k<tb.an.length):sc.hi+k∈b4 sc:=by
 unfold b4;exact mem_map.mpr ⟨k,mem_range.mpr h,rfl⟩
theorem gE:(gj sc x).as=b4 sc:=by
 show(tb.an.zip (b4 sc)).map (·.2)=b4 sc
 exact List.map_snd_zip (Zj dM)
theorem kh:∀ {as:List Str} {is:List Nat} {a:Str} {j:Nat},(as.zip is).lookup a=some j-> ∃k:Nat,as[k]? = some a/\is[k]? = some j:=by
 intro as
 induction as with
 |nil=>intro is a j h;exact ah h
 |cons b as ih=>
  intro is a j h;cases is with
  |nil=>exact ah h
  |cons m is=>
   rw[List.zip_cons_cons,ZC]at h;cases e:a==b with
   |true=>have h:=e▸h;refine Er (aI h).symm ?_;exact⟨0,by refine Er (beq_iff_eq.mp e) ?_;rfl,rfl⟩
   |false=>have h:=e▸h;exact aX (ih h) λk q=>(⟨k+1,q.1,q.2⟩)
theorem nV {a:Str} (h:tb.an[k]? = some a):(hU dx L x)[k]? = some (.attr dx tb.an a):=by
 unfold hU;refine Er (ZM (by rw[ZG];exact(List.getElem?_eq_some_iff.mp h).1)) (Er (ZJ) (Er h ?_));rfl
theorem jD:(hU dx L x)[tb.an.length]? = some (.dict L x):=by
 unfold hU;refine Er (ZL (by rw[ZG];exact Zi _)) ?_;rw[ZG,Nat.sub_self];rfl
theorem pL:(hU dx L x).length=tb.an.length+1:=by unfold hU;rw[ZI,ZG];rfl
theorem xx {bv₀:List Nat} (ok:cX A sc env y c bv ak) (hx:sc.names.lookup x=some .local) (cls:∃c C,tb.cr=some c/\mg c.name=some (.ref C)/\p.2.cls = .ref C) (nc:∀c,p.2.data≠ .cls c) (dic:p.2.dict=some dx) (ne:dx≠p.1) (hd:∀j l,y.loc j=some l->l.addr≠dx) (hL:dx≠y.L):
  jV (gj sc x) env (y.more sc.hi (hU dx y.L x) p) p dx where
 slf:=rfl
 cls:=cls
 nc:=nc
 dic:=dic
 ne:=ne
 lk:=(ok.kd x).trans hx
 ls:=by exact Er ok.le (gS jD)
 an:=λa j h=>by
  obtain⟨k,Q⟩:=kh h;obtain⟨_,rfl⟩:=jB Q.2;exact⟨Zs Q.1,gS (nV Q.1)⟩
 as:=λk j h=>by
  obtain⟨h1,rfl⟩:=jB (gE▸h);exact⟨_,ZK h1,gS (nV (ZK h1))⟩
 len:=by exact Er gE dM
 full:=λj l h q=>by
  refine Er gE ?_
  rcases bg h with⟨hj,h⟩|⟨_,h⟩
  .rcases bE h with⟨a,ha,_⟩|⟨_,rfl⟩
   .have:=ma (sc:=sc) (List.getElem?_eq_some_iff.mp ha).1
    rw[Zn hj]at this;exact this
   .exact absurd q.symm hL
  .exact absurd q (hd _ _ h)
 zd:=λj l h q=>by
  rcases bg h with⟨hj,h⟩|⟨_,h⟩
  .rcases bE h with⟨a,_,rfl⟩|⟨_,rfl⟩
   .exact⟨a,rfl⟩
   .exact absurd q.symm hL
  .exact absurd q (hd _ _ h)
theorem A9 (ok:cX A sc env y c bv ak) (hx:sc.names.lookup x=some .local) (J:jV (gj sc x) env (y.more sc.hi (hU dx y.L x) p) p dx) (df:tb.an≠ []):
  cX A (gj sc x) env (y.more sc.hi (hU dx y.L x) p) c (bv++List.map (sc.hi + ·) (List.range (tb.an.length+1))) ak where
 en:= {
  stk:=ok.en.stk
  hi:=λj l h=>by
   show j<sc.hi+tb.an.length+1
   rcases bg h with⟨hj,h⟩|⟨hj,h⟩
   .have q:=(List.getElem?_eq_some_iff.mp h).1
    rw[pL]at q;refine Er (Zn hj).symm ?_;rw[Nat.add_assoc];exact Nat.add_lt_add_left q _
   .exact Ze hj (Zh (Zl _ _) (Zl _ 1))
  kind:=ok.en.kind
  glob:=ok.en.glob
  blt:=ok.en.blt
  frame:=ok.en.frame
  top:=ok.en.top
  var:=λz j h=>(ok.en.var z j h).imp (λq=>⟨q.1,dh ok.en.hi q.2⟩) λ⟨q,c,q1,q2⟩=>⟨q,c,q1,dh ok.en.hi q2⟩
  gl:=ok.en.gl
  cf:=ok.en.cf
  ins:=λaa=>⟨p,dx,J⟩
  nsi:=λz j h p' aa q=>by
   refine aX (ok.loc h) λl hl=>?_
   have:=ok.en.hi j l hl;exact absurd this (Nat.not_lt.mpr (by refine Er (show sc.hi+tb.an.length=j from q).symm ?_;exact Zl _ _))
  slo:=λp' aa=>⟨_,gS jD⟩}
 nf:=ok.nf
 bv:=λj hp h=>by
  by_cases q:sc.hi<=j
  .refine Zw _ (mem_map.mpr ⟨j-sc.hi,mem_range.mpr ?_,Zn q⟩)
   exact Nat.sub_lt_left_of_lt_add q (by rw[<- Nat.add_assoc];exact h)
  .exact Zx _ (ok.bv j hp (Nat.not_le.mp q))
 ni:=ok.ni
 kd:=ok.kd
 le:=ok.le
 lv:=λaa aA bF=>.inr λq=>by
  have:((gj sc x).as).length=0:=by show(List.map _ (gj sc x).ats).length=0;refine Er q ?_;rfl
  rw[gE,dM]at this;exact df (List.length_eq_zero_iff.mp this)
 sl:=λq=>by
  have:((gj sc x).as).length=0:=by show(List.map _ (gj sc x).ats).length=0;refine Er q ?_;rfl
  rw[gE,dM]at this;exact absurd (List.length_eq_zero_iff.mp this) df
structure Made (y:Lay) (Z:Addr->Prop) (s:Shared) (aK:List Slot) (xa:Addr) (ox:Obj) (dx:Addr) (ae:Addr->Option Nat) (Z':Addr->Prop) (s':Shared):Prop where
 sh:∃h' tk,s'={s with heap:=h',toks:=tk}
 keep:∀a o,s.heap.get? a=some o-> ¬y.F a->a≠y.L->s'.heap.get? a=some o
 live:∀a o,s.heap.get? a=some o-> ∃o',s'.heap.get? a=some o'
 fram:∀a o,y.F a\/a=y.L->s.heap.get? a=some o-> ∃sl,s'.heap.get? a=some {o with slots:=sl}
 zm:∀a,Z a->Z' a
 zn:∀a,Z' a->Z a\/s.heap.get? a=none
 on:∀a k,ae a=some k->s.heap.get? a=none
 gh:Gh (λa=>y.F a\/a=y.L) ae Z' s'.heap
 ins:t3 (λa=>y.F a\/a=y.L) ae Z' s'.heap xa ox dx
 ats:t4 (some (xa,ox,dx)) ae Z' s'.heap aK
 len:tb.an.length<=aK.length
 fx:s.heap.get? xa=none
 fd:s.heap.get? dx=none
theorem wC {d:DefRec} {cr:ClsRec} {C:Addr} {ds:List D} {vs:List Value} {o:Except Str Rv} {aK:List Slot} {as:List Nat} {Q:Value→Shared→Prop} {E:Value→Shared→Prop} (R:Rn A c n) (en:aN A sc env y) (fL:c.hd = false) (pR:tb.cr = some cr) (hC:mg cr.name = some (.ref C)) (hd:tb.fn[tb.m0]? = some d) (LK:d.name = "__init__") (OB:as.length = tb.an.length)
  (I:Inv y own Z s.heap fr) (RA:am s.heap Z vs ds) (hc:c.call false tb.m0 (fh as++ds.map .fz)=some (o,aK)) (hn:Ib o=true) (K:∀xa ox dx ae Z' s',Made y Z s aK xa ox dx ae Z' s'->Q (.ref xa) s'):wpAny (model prog w) A (call (.ref C) vs) Q E s:=by
 refine ag λG1 g1=>?_
 refine iM (R.gd.pl cr pR) λC' N mN j=>?_;have rI:=j.1;have P:=j.2.1;have jn:=j.2.2.1;have Kd:=j.2.2.2
 have rI:=hC▸rI;cases rI;refine ag λG2 g2=>?_
 obtain⟨EU,MX,z,hz⟩:=Kd tb.m0 d (Zi _) hd;refine ag λG3 g3=>?_
 obtain⟨fa,fo,pm,cd,gk,h1,h2,h3,h4,h5⟩:=P.meths _ EU;refine ag λG5 g5=>?_
 obtain⟨hh,g,OQ,t,os⟩:=s;refine g5 ?_;refine ag λG4 g4=>?_
 obtain⟨nm,q,bs,sn,sub,col,OP,k0,k1,k2,k3,k5,Cv⟩:=(P.cls.keeps I.base).obj;refine g4 ?_;refine g3 ?_;refine g2 ?_;refine g1 ?_;refine wpAny_call_obj_init PySem.F.objNew Cv (P.cls.keeps I.base).ns (by refine Er LK.symm ?_;exact h1) (I.base _ _ h2) h3 λh' x dx Mk=>?_
 refine aX Mk.inst λox U=>?_
 have AZ:=Mk.dict ox U.1;obtain⟨df,Lp⟩:dx≠x/\h'.Ns1 dx λaa=>none:=by
  rcases U.2.2.2 with⟨Oe,_⟩|⟨d',c5,Ls,Lr⟩
  .have AZ:=Oe▸AZ;exact ah AZ
  .have AZ:=c5▸AZ;refine Er (aI AZ).symm ?_;exact⟨Ls,Lr⟩
 have gh:Gh (λa=>y.F a\/a=y.L) (λaa=>none) (λa=>Z a\/a=x) h':=⟨λa o e=>Mk.keeps a o (I.base a o e),λa o e=>.inl (I.zb a o e),λaa aA=>rfl,λa z f=>by
   rcases z with z|rfl
   .exact f.elim (I.zF a z) λe=>I.zL (e▸z)
   .exact f.elim (I.fresh Mk.newX).2.1 λe=>(I.fresh Mk.newX).1 (.inr (.inl e)),λa n=>absurd rfl n,λa z=>by
   rcases z with z|rfl
   .exact aX (I.zlv a z) λo e=>(⟨o,Mk.keeps a o e⟩)
   .exact⟨_,U.1⟩,λa n=>absurd rfl n,λa f=>by
   rcases f with f|rfl
   .exact aX (I.flv a f) λo J=>(⟨o,Mk.keeps a o J.1,J.2⟩)
   .refine lM I.nsL λm o aa aA u=>?_;have e:=u.1;have c5:=u.2.1;exact⟨o,Mk.keeps _ o e,λvs q=>by have q:=c5▸q;cases q⟩⟩
 have ins:sA (λa=>y.F a\/a=y.L) (λaa=>none) (λa=>Z a\/a=x) h' (some (x,ox,dx)):=λx' o' Kk e=>by
  cases e;exact⟨.inr rfl,U.1,⟨cr,C,pR,hC,U.2.1⟩,U.2.2.1,AZ,df,λz=>z.elim (I.fresh Mk.newD).2.2 df,rfl,λf=>f.elim (I.fresh Mk.newD).2.1 λe=>(I.fresh Mk.newD).1 (.inr (.inl e)),_,Lp,λz n=>absurd rfl n⟩
 have Ke:(fh as).length=tb.an.length:=by unfold fh;rw[ZG];exact OB
 have sl:hO (some (x,ox,dx)) (λaa=>none) (λa=>Z a\/a=x) h' (fh as++ds.map .fz) vs:=by
  refine⟨by refine Er ZI ?_;rw[Ke,ZG];refine Er RA.length.symm ?_;rfl,λk sl l e hl n=>?_,λk sl v e e'=>?_⟩
  .have hk:k<tb.an.length:=(eC hl).1
   rw[ZM (by refine Er Ke ?_;exact hk)]at e;unfold fh at e;rw[ZJ]at e;obtain⟨_,q0⟩:=Z9 e;exact absurd q0.2.symm n
  .have e:(fh as++ds.map .fz)[tb.an.length+k]? = some sl:=e
   rw[ZL (by refine Er Ke ?_;exact Zl _ _),Ke,Zm,ZJ]at e;refine ag λG7 g7=>?_
   obtain⟨d',c5,rfl⟩:=Z9 e;refine g7 ?_;refine ag λG6 g6=>?_
   obtain⟨v',EL,r⟩:=RA.get c5;have e':=EL▸e';obtain rfl:=aI e';exact g6 (⟨(λq=>by cases q),r.mono (λa o aa e=>Mk.keeps a o e) λaa z=>.inl z⟩)
 have key:=R.cs false tb.m0 _ o aK hc d hd (some (x,ox,dx)) fa (⟨⟨fun q=>ah q.symm,fun q=>absurd q (Zg _)⟩,fo,_,pm,cd,gk,h2,h4,h5⟩) (A.under (.builtin "type.__call__" ⟨.ref C :: vs,[]⟩)) _ _ _ ⟨h',g,OQ,t,os⟩ vs (by show A.depth + 1 + 2 * n≤999; have:=R.dep; exact (L1 [A.2,n] (.a (.p 1 .x) (.m 2 .y)) (.c 999) (.p 1 (.a .x (.m 2 .y))) (.c 999) rfl this)) (by show A.units + 1 + 8 * n≤4000; have:=R.un; exact (L1 [A.5,n] (.a (.p 1 .x) (.m 8 .y)) (.c 4000) (.p 4 (.a .x (.m 8 .y))) (.c 4000) rfl this)) (fun aa=>R.hh fL) en.stk gh ins sl;refine wpAny_call (codeAny_mono key fun r s' P=>?_);obtain ⟨ae,Z',G,J',T,at',ln,_,⟨rv,v,q,rfl,R'⟩ | ⟨Ai,ea,q,_⟩⟩:=P
 .subst q
  have hv:v = .none:=by
   cases rv with
   |fz d=>
    refine ag λG8 g8=>?_
    cases d with
    |none=>refine g8 ?_;exact(b5.dat R').none
    |_=>refine g8 ?_;exact nomatch hn
   |_=>exact nomatch hn
  refine⟨hv,K x ox dx ae Z' s' ⟨T.sh,λa o e f l=>T.ext.keep a o (Mk.keeps a o e) (λq=>q.elim (λq=>q rfl) λ⟨_,_,q⟩=>by cases q;have e:=Mk.newD▸e;exact ah e) λq=>q.elim f l,λa o e=>T.ext.live a o (Mk.keeps a o e),λa o f e=>T.ext.fram a o f (Mk.keeps a o e),λa z=>T.zm a (.inl z),λa z=>?_,λa k e=>?_,G,J' _ _ _ rfl,at',ln,Mk.newX,Mk.newD⟩⟩
  .have nn:h'.get? a=none->hh.get? a=none:=λq=>by
    cases e:hh.get? a with
    |none=>rfl
    |some o=>have q:=(Mk.keeps a o e)▸q;cases q
   rcases T.zn a z with(z|rfl)|z|z
   .exact .inl z
   .exact .inr Mk.newX
   .exact absurd rfl z
   .exact .inr (nn z)
  .rcases T.on a k e with q|q
   .exact ah q
   .cases e':hh.get? a with
    |none=>rfl
    |some o=>have q:=(Mk.keeps a o e')▸q;cases q
 .subst q;exact nomatch hn
theorem Made.back {xa:Addr} (I:Inv y own Z s.heap fr) (M:Made y Z s aK xa ox dx ae Z' s'):Inv y own Z' s'.heap fr/\Step y bv own Z s own Z' s':=by
 have kz:∀a o,Z a->s.heap.get? a=some o->s'.heap.get? a=some o:=λa o z e=>M.keep a o e (I.zF a z) λq=>I.zL (q▸z)
 have ko:∀a o,own a≠none->s.heap.get? a=some o->s'.heap.get? a=some o:=λa o z e=>M.keep a o e (I.oF a z) λq=>z (q▸I.oL)
 have vT:∀o,s.heap.get? y.L=some o-> ∃sl,s'.heap.get? y.L=some {o with slots:=sl}:=λo e=>M.fram y.L o (.inr rfl) e
 have vF:∀i l v,y.loc i=some l->eG s.heap l v->eG s'.heap l v:=λi l v hl hv=>by
  by_cases e:l.addr=y.L
  .cases l with
   |dict a x=>obtain⟨m,hv⟩:=hv;subst e;exact⟨m,ch hv.1 vT,hv.2⟩
   |cell a=>exact absurd e (I.wf.cl i a hl)
   |attr a ns x=>exact absurd e (I.wf.al i a ns x hl)
  .exact hv.keeps λo e'=>M.keep _ o e' (I.wf.nf i l hl) e
 have Ei:∀i l,y.loc i=some l->nI s'.heap l:=λi l hl=>by
  have hv:=I.ok i l hl
  by_cases e:l.addr=y.L
  .cases l with
   |dict a x=>obtain⟨m,hn⟩:=hv;subst e;exact⟨m,ch hn vT⟩
   |cell a=>exact absurd e (I.wf.cl i a hl)
   |attr a ns x=>exact absurd e (I.wf.al i a ns x hl)
  .exact hv.keeps λo e'=>M.keep _ o e' (I.wf.nf i l hl) e
 have C5:∀i l,y.loc i=some l-> ¬Z' l.addr:=λi l hl z=>by
  obtain⟨o,e⟩:=(I.ok i l hl).live
  rcases M.zn _ z with z|z
  .exact I.zl i l hl z
  .rw[z]at e;exact ah e
 refine⟨⟨I.wf,M.gh.base,M.gh.zb,λa z=>?_,C5,I.ol,λz=>M.gh.zF _ z (.inr rfl),I.oL,λa z f=>M.gh.zF a z (.inl f),I.oF,M.gh.zlv,λa q=>?_,λa f=>M.gh.flv a (.inl f),Ei,?_,λp e=>(I.sf p e).mono kz M.zm λl v hl r=>vF _ l v hl r,λi s0 e n=>?_⟩,⟨M.sh,⟨λa o e w f=>M.keep a o e f λq=>w (.inr (.inl q)),M.live,λa o f e=>M.fram a o (.inl f) e⟩,M.zm,λa z=>(M.zn a z).imp id .inr,λa i e=>.inl e,λi l v aa hl hv=>vF i l v hl hv⟩⟩
 .rcases M.zn a z with z|z
  .exact I.zo a z
  .cases q:own a with
   |none=>rfl
   |some i=>obtain⟨o,e⟩:=I.olv a (by refine Er q ?_;exact λn=>by cases n);rw[z]at e;exact ah e
 .obtain⟨o,e⟩:=I.olv a q;exact M.live a o e
 .obtain⟨m,hn⟩:=I.nsL;exact⟨m,ch hn vT⟩
 .obtain⟨l,v,hl,hv,sv⟩:=I.at' i s0 e n
  exact⟨l,v,hl,vF i l v hl hv,sv.mono kz M.zm (λaa q=>q) λa o q=>ko a o (by refine Er q ?_;exact λn=>by cases n)⟩
noncomputable def cI (i:Nat) (own ae:Addr->Option Nat):Addr->Option Nat:=λa=>match own a with
 |some j=>some j
 |none=>match ae a with
  |some k=>if k<tb.an.length then some (i+k) else none
  |none=>none
theorem ut (h:cI i own ae a=some m):own a=some m\/ ∃k,ae a=some k/\k<tb.an.length/\m=i+k:=by
 unfold cI at h;cases e:own a with
 |some j=>rw[e]at h;exact .inl h
 |none=>
  rw[e]at h;cases e':ae a with
  |none=>rw[e']at h;exact ah h
  |some k=>
   rw[e']at h;have h:(if k<tb.an.length then some (i+k) else none)=some m:=h
   by_cases q:k<tb.an.length
   .rw[Y0 q]at h;refine Er (aI h).symm ?_;exact .inr ⟨k,rfl,q,rfl⟩
   .rw[Y1 q]at h;exact ah h
theorem wm (h:own a=some m):cI i own ae a=some m:=by unfold cI;rw[h]
theorem wo (h:own a=none) (h':ae a=some k) (hk:k<tb.an.length):cI i own ae a=some (i+k):=by unfold cI;exact Er h (Er h' (Y0 hk))
theorem wD:(b4 sc).Nodup:=by
 unfold b4;exact Pairwise.map _ (λa b h q=>h (Nat.add_left_cancel q)) List.nodup_range
theorem Made.inv {xa:Addr} {h2:Heap} {m:Str->Option Value} (hi:∀j l,y.loc j=some l->j<sc.hi) (hx:∀j,y.loc j≠some (.dict y.L x)) (nd:tb.an.Nodup) (I:Inv y own Z s.heap fr) (M:Made y Z s aK xa ox dx ae Z' s') (hm:s'.heap.Ns y.L m) (mn:h2.Ns y.L λz=>if z=x then some (.ref xa) else m z) (hs:Heap.SameBut y.L s'.heap h2):
  Inv (y.more sc.hi (hU dx y.L x) (xa,ox)) (cI sc.hi own ae) Z' h2 (dJ fr (b4 sc) aK):=by
 have I':=(M.back (bv:=[]) I).1;have fd:=I.fresh M.fd;have kp:∀b o,b≠y.L->s'.heap.get? b=some o->h2.get? b=some o:=λb o n e=>hs.extBut b o n e
 have dL:dx≠y.L:=λq=>fd.1 (.inr (.inl q))
 have od:own dx=none:=by
  cases q:own dx with
  |none=>rfl
  |some k=>exact absurd (.inl (by refine Er q ?_;exact λn=>by cases n)) fd.1
 have zL:∀a,Z' a->a≠y.L:=λa z q=>I'.zL (q▸z)
 have nN:∀a,own a=none->ae a=none->cI sc.hi own ae a=none:=λa e e'=>by unfold cI;exact Er e (Er e' rfl)
 have NV:∀a k,ae a=some k->own a=none:=λa k e=>by
  cases q:own a with
  |none=>rfl
  |some j=>obtain⟨o,e'⟩:=I.olv a (by refine Er q ?_;exact λn=>by cases n);have e':=(M.on a k e)▸e';exact ah e'
 have oL:ae y.L=none:=by
  cases q:ae y.L with
  |none=>rfl
  |some k=>exact absurd (.inr rfl) (M.gh.oF y.L (by refine Er q ?_;exact λn=>by cases n))
 have ne:∀a,cI sc.hi own ae a≠none->own a≠none\/ae a≠none:=λa h=>by
  by_cases e:own a=none
  .exact .inr λe'=>h (nN a e e')
  .exact .inl e
 have lo:∀j l,y.loc j=some l->ae l.addr=none:=λj l hl=>by
  cases q:ae l.addr with
  |none=>rfl
  |some k=>obtain⟨o,e⟩:=(I.ok j l hl).live;have e:=(M.on _ k q)▸e;exact ah e
 have nL:∀a,cI sc.hi own ae a≠none->a≠y.L:=λa h q=>(ne a h).elim (λh=>h (q▸I'.oL)) λh=>h (q▸oL)
 refine⟨zh I.wf hi hx (λj l hl q=>fd.1 (.inr (.inr ⟨j,l,hl,q⟩))) dL fd.2.1 nd,λa o e=>kp a o (zL a (I'.zb a o e)) (I'.base a o e),I'.zb,λa z=>nN a (I'.zo a z) (M.gh.zo a z),λj l hl=>?_,λj l hl=>?_,I'.zL,nN _ I'.oL oL,I'.zF,λa h=>(ne a h).elim (I'.oF a) λh f=>M.gh.oF a h (.inl f),λa z=>?_,λa h=>?_,λa f=>?_,λj l hl=>?_,⟨_,mn⟩,λp e=>?_,λj sl e n=>?_⟩
 .rcases bg hl with⟨_,hl⟩|⟨_,hl⟩
  .rcases gW hl with q|q<;>refine Er q ?_
   .exact M.ins.zd
   .exact I'.zL
  .exact I'.zl j l hl
 .rcases bg hl with⟨_,hl⟩|⟨_,hl⟩
  .rcases gW hl with q|q<;>refine Er q ?_
   .exact nN _ od M.ins.od
   .exact nN _ I'.oL oL
  .exact nN _ (I'.ol j l hl) (lo j l hl)
 .obtain⟨o,e⟩:=I'.zlv a z;exact⟨o,kp a o (zL a z) e⟩
 .obtain⟨o,e⟩:=(ne a h).elim (I'.olv a) (M.gh.olv a);exact⟨o,kp a o (nL a h) e⟩
 .obtain⟨o,Q⟩:=I'.flv a f;exact⟨o,kp a o (λq=>I.wf.nL (q▸f)) Q.1,Q.2⟩
 .rcases bg hl with⟨_,hl⟩|⟨_,hl⟩
  .rcases bE hl with⟨a,_,rfl⟩|⟨_,rfl⟩
   .exact nI.keeps (l:=.attr dx tb.an a) (λo e=>kp _ o dL e) M.ins.ok
   .exact⟨_,mn⟩
  .by_cases q:l.addr=y.L
   .cases l with
    |dict a z=>cases q;exact⟨_,mn⟩
    |cell a=>exact absurd q (I.wf.cl _ _ hl)
    |attr a ns z=>exact absurd q (I.wf.al _ _ _ _ hl)
   .exact(I'.ok j l hl).keeps λo e=>kp _ o q e
 .refine Er (aI e).symm ?_
  exact⟨M.ins.zx,kp _ _ (zL _ M.ins.zx) M.ins.ob,_,gS jD,_,mn,Y0 rfl⟩
 .have kz:∀a o,Z' a->s'.heap.get? a=some o->h2.get? a=some o:=λa o z e=>kp a o (zL a z) e
  rcases ky wD (by refine Er dM ?_;exact M.len) e with⟨k,hk,ho⟩|⟨_,e⟩
  .obtain⟨h1,rfl⟩:=jB hk
   obtain⟨v,r,sv⟩:=M.ats k sl (.attr dx tb.an tb.an[k]) ho (by show(tb.an[k]?).map _=_;refine Er (ZK h1) ?_;rfl) n;exact⟨_,v,gS (nV (ZK h1)),r.keeps λo e=>kp _ o dL e,sv.mono kz (λaa z=>z) (λa q=>wo (NV a k q) q h1) λa o q e=>kp a o (λq'=>by have q:=q'▸q;have q:=oL▸q;exact ah q) e⟩
  .obtain⟨l,v,hl,r,sv⟩:=I'.at' j sl e n
   refine⟨l,v,dh hi hl,?_,sv.mono kz (λaa z=>z) (λa q=>wm q) λa o q e=>kp a o (λq'=>by rw[q']at q;have q:=I'.oL▸q;exact ah q) e⟩
   by_cases q:l.addr=y.L
   .cases l with
    |dict a z=>
     cases q;refine aX r λm2 r=>?_;have h3:=r.1;have h4:=r.2
     have em:m2 z=m z:=by
      refine iM h3 λo es ep h3=>?_;have g1:=h3.1;have g2:=h3.2.1;have g3:=h3.2.2.2
      refine ag λG g=>?_
      obtain⟨o',CD,CH,GI,E9,_,LR⟩:=hm;have GI:=g1▸GI;obtain rfl:=aI GI;have E9:=g2▸E9;cases E9;refine g ?_;rw[<- g3,LR]
     exact⟨_,mn,by show(if z=x then some (.ref xa) else m z)=some v;refine Er (Y1 (show ¬z=x from λq=>hx j (q▸hl))) (Er em.symm ?_);exact h4⟩
    |cell a=>exact absurd q (I.wf.cl _ _ hl)
    |attr a ns z=>exact absurd q (I.wf.al _ _ _ _ hl)
   .exact r.keeps λo e=>kp _ o q e
theorem Made.step {xa:Addr} {h2:Heap} {tk:Nat} {m:Str->Option Value} (hx:∀j,y.loc j≠some (.dict y.L x)) (I:Inv y own Z s.heap fr) (M:Made y Z s aK xa ox dx ae Z' s') (hm:s'.heap.Ns y.L m) (mn:h2.Ns y.L λz=>if z=x then some (.ref xa) else m z) (hs:Heap.SameBut y.L s'.heap h2):
  Step y bv own Z s (cI i own ae) Z' {s' with heap:=h2,toks:=tk} where
 sh:=by refine fM M.sh λh1 t1 e=>?_;subst e;exact⟨_,_,rfl⟩
 ext:=⟨λa o e w f=>hs.extBut a o (λq=>w (.inr (.inl q))) (M.keep a o e f λq=>w (.inr (.inl q))),λa o e=>by
   obtain⟨o',e'⟩:=M.live a o e
   by_cases q:a=y.L
   .exact iM mn λo2 aa aA mn=>(⟨o2,q▸mn.1⟩)
   .exact⟨o',hs.extBut a o' q e'⟩,λa o f e=>let ⟨sl,e'⟩:=M.fram a o (.inl f) e;⟨sl,hs.extBut a _ (λq=>I.wf.nL (q▸f)) e'⟩⟩
 zm:=M.zm
 zn:=λa z=>(M.zn a z).imp id .inr
 on:=λa k e=>(ut e).imp id λ⟨k',h,_⟩=>M.on a k' h
 bind:=λj l v aa hl r=>by
  have r:=(M.back (bv:=[]) I).2.bind j l v (λq=>by cases q) hl r
  by_cases q:l.addr=y.L
  .cases l with
   |dict a z=>
    cases q;obtain⟨m2,r⟩:=r;have h3:=r.1;have h4:=r.2;have em:m2 z=m z:=by
     refine ag λG g=>?_
     refine iM h3 λo es ep h3=>?_;have g1:=h3.1;have g2:=h3.2.1;have g3:=h3.2.2.2
     obtain⟨o',CD,CH,GI,E9,_,LR⟩:=hm;rw[g1]at GI;obtain rfl:=aI GI;have E9:=g2▸E9;cases E9;refine g ?_;rw[<- g3,LR]
    exact⟨_,mn,by show(if z=x then some (.ref xa) else m z)=some v;refine Er (Y1 (show ¬z=x from λq=>hx j (q▸hl))) (Er em.symm ?_);exact h4⟩
   |cell a=>exact absurd q (I.wf.cl _ _ hl)
   |attr a ns z=>exact absurd q (I.wf.al _ _ _ _ hl)
  .exact r.keeps λo e=>hs.extBut _ o q e
theorem sF (hi:∀j l,y.loc j=some l->j<i) (h:y.wr own a):(y.more i ls p).wr own a:=by
 rcases h with h|h|⟨j,k,hk,rfl⟩
 .exact .inl h
 .exact .inr (.inl h)
 .exact .inr (.inr ⟨j,k,dh hi hk,rfl⟩)
theorem uk (hi:∀j l,y.loc j=some l->j<i) (hv:∃d,bQ r=some d) (R:d6 (y.more i ls p) own Z h₀ h r v):d6 y own Z h₀ h r v:=by
 cases r with
 |fz d=>exact R
 |own d=>obtain⟨a,R⟩:=R;exact⟨a,R.1,R.2.1,λq=>R.2.2.1 (sF hi q),R.2.2.2⟩
 |pl p=>obtain⟨d,hv⟩:=hv;exact ah hv
theorem Hz {j:Nat} (h:sc.hi<=j) (h':j<sc.hi+(tb.an.length+1)) (df:tb.an≠ []):j∈nx (b4 sc):=by
 rcases Nat.lt_or_ge j (sc.hi+tb.an.length) with q|q
 .refine Zu _ ?_
  have:=ma (sc:=sc) (k:=j-sc.hi) (Nat.sub_lt_left_of_lt_add h q);rw[Zn h]at this;exact this
 .have e:j=sc.hi+tb.an.length:=Zk (Nat.le_of_lt_succ h') q
  have hl:(b4 sc).getLast? = some (sc.hi+(tb.an.length-1)):=by
   refine Er (List.getLast?_eq_getElem?) (Er dM ?_);unfold b4;refine Er (ZJ) (Er (List.getElem?_range (Nat.sub_lt (length_pos_iff.mpr df) Nat.one_pos)) ?_);rfl
  unfold nx;refine Er hl (Er e ?_);show sc.hi+tb.an.length∈(sc.hi+(tb.an.length-1)+1)::b4 sc
  rw[Nat.add_assoc];exact Er (Zd (length_pos_iff.mpr df)) Zt
theorem Dy {cr:ClsRec} {p np gu pos:Pos} {args:List Expr} {xs:List Ex} {rest:List Stmt} {body:List St} (R:Rn A c n) (ok:cX A sc env y c bv ak) (pR:tb.cr = some cr) (hg:sc.isG cr.name) (hx:sc.ats = []∧sc.names.lookup x = some .local∧sc.vars.lookup x = none∧(x == ("__debug__" :Str)) = false) (yE:lA sc args xs) (df:args≠ []∧(∃d,tb.fn[tb.m0]? = some d∧d.name = "__init__"))
  (Hb:∀y' bv',cX A (gj sc x) env y' c bv' ak->SS A c y' bv' ak Z₀ s₀ (execs rest env) body):
  SS A c y bv ak Z₀ s₀ (execs (.Assign [.Name x p] (.Call (.Name cr.name np) args [] gu) pos::rest) env) [.new tb.m0 (b4 sc) xs body]:=by
 intro own Z s fr out h I S;have h:mB c (.new tb.m0 (b4 sc) xs body) fr=some out:=by
  rw[jG]at h
  rcases be h with⟨e,f,hm,rfl⟩|⟨k,f,hm,h⟩
  .exact hm
  .cases k with
   |next=>have h:=aI h;exact Er h.symm hm
   |ret r=>have h:=aI h;exact Er h.symm hm
 rw[tG]at h;cases fL:c.hd with
 |true=>rw[fL]at h;exact ah h
 |false=>
 rw[fL,Y1 Z7]at h;refine ag λG g=>?_
 obtain⟨df,d,df⟩:=df;have hd:=df.1;have LK:=df.2;refine iM (R.gd.pl cr pR) λC N mN Q=>?_;have hC:=Q.1;have P:=Q.2.1;have jn:=Q.2.2.1;have Kd:=Q.2.2.2
 have F:=(bj R sc _ yE env y ok.en).imp λaa aA h=>(⟨h.1,h.2.1⟩:CE sc _ _/\SE A c y _ _)
 have J7:∀j,y.loc j≠some (.dict y.L x):=λj q=>(ok.lv j x q).elim (λn=>n hx.2.2.1) λn=>n hx.1
 have IN:tb.an≠ []:=λq=>nomatch q
 refine g ?_;refine wpAny_execs_cons (wpAny_Assign_Name (Call_Name rfl (eE R.gd ok.en I hg hC ?_)) rfl);cases args with
 |nil=>exact absurd rfl df
 |cons e es=>
 refine ag λG2 g2=>?_
 cases xs with
 |nil=>refine g2 ?_;exact F.elim
 |cons z zs=>
 refine g2 ?_;refine callWith_cls P.cls ?_ (F.1.1.star env es) (by have q:=oX (pos:=gu) F.2.2;rw[<- List.not_any_eq_all_not]at q;exact not_eq_true' _▸q);refine YW (kB h .refl (λaa h=>h) (λo e=>qV F own Z s fr o e I) λrs aq ac aw s₁ vs bn h ai bb S' Rs=>?_) (λaa aA q=>q) λaa aA p=>p.strong ok.en (fb sc _ yE) .refl
 refine⟨ai.base,?_⟩;have bb:Step y bv own Z s ac aw s₁:=(bb.strong ok.en (fb sc _ yE)).sub λaa h=>by cases h
 cases gA:b9 rs with
 |none=>have h:=gA▸h;exact ah h
 |some ds=>
 have h:=gA▸h;dsimp only at h;cases hc:c.call false tb.m0 (fh (b4 sc)++ds.map .fz) with
 |none=>rw[hc]at h;exact ah h
 |some o=>
 have h:=hc▸h;dsimp only at h;cases hn:Ib o.1 with
 |false=>rw[hn]at h;exact ah h
 |true=>
 rw[hn]at h;have h:=(Y0 rfl)▸h;refine wC R ok.en fL pR hC hd LK dM ai (Rs.repAll gA) hc hn λxa ox dx ae Z' s' M=>?_
 obtain⟨m,hm⟩:=(M.back (bv:=bv) ai).1.nsL;refine wpAny_storeName_local ((ok.kd x).trans hx.2.1) (by refine Er ok.le ?_;exact hm) (λh' uH hs=>?_) (by refine Er ok.en.kind ?_;rfl);rw[ok.le]at uH hs;have fd:=ai.fresh M.fd;have dL:dx≠y.L:=λq=>fd.1 (.inr (.inl q))
 have aY:∀tk,Step y bv own Z s (cI sc.hi ac ae) Z' {s' with heap:=h',toks:=tk}:=λtk=>bb.trans (M.step J7 ai hm uH hs)
 cases hb:c9 c body (dJ aq (b4 sc) o.2) with
 |none=>have h:=hb▸h;exact ah h
 |some ob=>
 rw[hb]at h;refine Er (aI (show some (ob.1,clr ob.2 (nx (b4 sc)))=some out from h)).symm ?_;have bk:∀ {o3:Addr->Option Nat} {Z3:Addr->Prop} {s3:Shared} {tk:Nat},Inv (y.more sc.hi (hU dx y.L x) (xa,ox)) o3 Z3 s3.heap ob.2->Step (y.more sc.hi (hU dx y.L x) (xa,ox)) (bv++List.map (sc.hi + ·) (List.range (tb.an.length+1))) (cI sc.hi ac ae) Z' {s' with heap:=h',toks:=tk} o3 Z3 s3->Inv y o3 Z3 s3.heap (clr ob.2 (nx (b4 sc)))/\Step y bv own Z s o3 Z3 s3:=fun {o3 Z3 s3 tk} I3 S3=>by
  refine⟨(I3.clr _).unmore I.wf ok.en.hi (ok.sl hx.1) λj h1 h2=>oy (.inr (Hz h1 (by rw[pL]at h2;exact h2) IN)),(aY tk).thru S3 ok.en.hi (λj hj=>(mem_append.mp hj).imp id λhj=>?_) λk l hl=>(gW hl).symm.imp id λq=>by refine Er q ?_;exact(bb.old dx M.fd)⟩;refine aX (mem_map.mp hj) λm u=>?_;obtain rfl:=u.2
  exact Zl _ _
 refine YW (Hb _ _ (A9 ok hx.2.1 (xx (p:=(xa,ox)) (bv₀:=bv) ok hx.2.1 M.ins.cls M.ins.nc M.ins.dic M.ins.ne (λj l hl q=>fd.1 (.inr (.inr ⟨j,l,hl,q⟩))) dL) IN) _ _ _ _ _ hb (M.inv (sc:=sc) ok.en.hi J7 (by decide) ai hm uH hs) ((S.trans (aY _)).more ok.en.hi (λaa h=>Zx _ h) λk l hl=>?_)) (λf iO P=>?_) λe iO P=>?_
 .rcases bE hl with⟨a,_,rfl⟩|⟨rfl,rfl⟩
  .exact .inl (S.old dx (bb.old dx M.fd))
  .exact .inr (Zw _ (mem_map.mpr ⟨_,mem_range.mpr (lt_succ_self _),rfl⟩))
 .refine ag λG1 g1=>?_
  obtain⟨k,o3,Z3,q,I3,S3,fl⟩:=P;have U:=bk I3 S3;refine g1 ?_;refine⟨k,o3,Z3,q,U.1,U.2,?_⟩;cases k with
  |next=>exact fl
  |ret r=>exact aX fl λv fl=>(⟨v,fl.1,uk ok.en.hi fl.2.2 fl.2.1,fl.2.2⟩)
 .obtain⟨Ai,ea,o3,Z3,q,rfl,I3,S3,X⟩:=P
  obtain⟨I4,S4⟩:=bk I3 S3;exact⟨Ai,ea,o3,Z3,q,rfl,I4,S4,X.mono λb aa aA h=>⟨(aY 0).old b h.1,λq=>h.2.1 (sF ok.en.hi q),h.2.2⟩⟩
end
theorem sy {m m':Str->Option Value} (x:h.Ns a m) (z:h.Ns a m') (k:Str):m k=m' k:=by
 refine ag λG g=>?_
 refine iM x λo es ep x=>?_;have ho:=x.1;have hd:=x.2.1;have hk:=x.2.2.1;have hf:=x.2.2.2
 obtain⟨o',CD,CH,lC,c5,eF,AY⟩:=z;rw[ho]at lC;obtain rfl:=aI lC;have c5:=hd▸c5;cases c5;refine g ?_;rw[<- hf,AY]
section
variable {A:Around} {c:cR} {n:Nat} {env:Env} {sc:Sc} {y:Lay}
 {bv bv':List Nat} {own ac ak ae:Addr->Option Nat} {Z aw Z₀ Z':Addr->Prop} {s s₁ s₀ s':Shared} {fr aq:Fm}
theorem vR {k HQ:Str} {np gu ap:Pos} (R:Rn A c n) (ok:cX A sc env y c bv ak) (hg:sc.isG k) (hk:k∈tb.cl):
  ly A c y bv ak Z₀ s₀ (exec (.Raise (some (.Call (.Name k np) [.Constant (.str HQ) kk ap] [] gu)) none pos) env) (.raise k):=by
 intro own Z s fr out h I S;rw[mz]at h;cases fL:c.hd with
 |true=>rw[fL]at h;exact ah h
 |false=>
 rw[fL,Y1 Z7]at h;refine Er (aI h).symm ?_;refine ag λG g1=>?_
 obtain⟨C,Bb,newId,gK,bm,O,FB⟩:=R.gd.cl k hk;obtain⟨tl,N,nm,q,bs,hdct,sn,sub,ab,col,dd,k0,k1,k2,k3,k5,mN,hC,hN,hq,T⟩:=O.obj;refine g1 ?_;refine wpAny_Raise_call_subT (C:=C) (nm:=nm) (q:=q) (N:=N) (bs:=bs) (bm:=tl) (hdct:=hdct) (sn:=sn) (sub:=sub) (ab:=ab) (col:=col) (dd:=dd) (k0:=k0) (k1:=k1) (k2:=k2) (k3:=k3) (k5:=k5)
  FB (mN:=mN) (T.tail.hasType FB.hasBase) (R.hh fL) rfl (hq _ (.head _)) (eE R.gd ok.en I hg O.bound ⟨rfl,?_⟩)
 refine Z6 (Z5 (wpAny_Constant_str (k:=kk) (pos:=ap) (Z4 ?_)));refine⟨rfl,(by show 1<=sizeLine;decide),I.base _ _ hC,hN.keeps I.base,T.tail.keeps I.base,λh' e hm=>?_⟩;exact aX hm.there λt Q=>(⟨k,e,own,Z,rfl,rfl,I.grow hm.keeps,.grow hm.keeps,⟨hm.new,(I.fresh hm.new)⟩,_,_,C,mg,Q.1,⟨rfl,rfl⟩,rfl,R.gd.g,O.bound,.inl rfl⟩)
theorem Du {cn:Str} {p hp pos:Pos} {no:List Str} {hs:List Stmt} {h0:Stmt} {xb xh:List St} (R:Rn A c n) (ok:cX A sc env y c bv ak) (hx:sc.isV x i) (J7:sc.names.lookup x=some .local) (LN:sc.isG cn) (J9:tb.sub.lookup cn=some (yes,no))
  (Hb:SS A c y bv ak Z₀ s₀ (execs body env) xb) (Hh:∀a,SS (A.mark (some (.ref a))) {c with hd:=true} y bv ak Z₀ s₀ (execs (h0::hs) env) xh):
  ly A c y bv ak Z₀ s₀ (exec (.Try body [.ExceptHandler (some (.Name cn p)) (some x) (h0::hs) hp] [] [] pos) env) (.try_ xb yes i xh):=by
 refine ly.of λown Z s fr out Q E kQ kE h I S=>?_
 rw[tC]at h;cases fL:c.hd with
 |true=>rw[fL]at h;exact ah h
 |false=>
 rw[fL]at h;have h:=(Y1 Z7)▸h;refine wpAny_Try_except ?_
 rcases hb:c9 c xb fr with _|⟨nm|k,aq⟩
 .have h:=hb▸h;exact ah h
 .rw[hb,oP]at h
  by_cases hy:yes.contains nm=true/\ ¬c.pin.contains i=true
  rotate_left
  .have h:=(Y1 hy)▸h;exact ah h
  rw[Y0 hy]at h
  rcases hh:c9 {c with hd:=true} xh (aq.set i (.exc nm)) with _|⟨e|k,ax⟩
  .have h:=hh▸h;exact ah h
  .rw[hh]at h;exact ah h
  rw[hh,zr]at h;obtain rfl:=aI h;refine YW (Hb own Z s fr _ hb I S) (λfl s' p=>?_) λev s₁ p=>?_
  .obtain⟨_,_,_,q,_⟩:=p;exact iX q
  obtain⟨Ai,a,ac,aw,q1,rfl,ai,bb,X⟩:=p;refine ag λG2 g3=>?_
  cases q1;dsimp only at ai;refine fM ok.en.top λe0 dX U=>?_
  refine aX (iG ai ok.en.stk) λl u=>?_;have cz:=u.1;have FF:=u.2.1;have Na:=u.2.2
  rw[U.1]at cz;obtain rfl:=aI cz;refine aX (R.gd.ask cn yes no J9) λV J=>?_
  refine g3 ?_;refine mf U.1 U.2 FF ok.en.frame X (λb e=>⟨bb.old b e,ai.fresh e⟩) λcy lv lw=>?_
  have aF:=ai.lv lv (λb p=>p.2) Na;have aY:Step y bv own Z s ac aw {s₁ with heap:=cy}:=bb.lv ai lv (λb p=>p) Na;have Nm:aN (A.mark (some (.ref a))) sc env y:= {ok.en with stk:=ok.en.stk,top:=ok.en.top}
  refine wpAny_handleBy_cons (codeAny_handlers_test (kP (s:= {s₁ with heap:=cy}) R.gd Nm aF LN J.1 ?_)) (by intro q;cases q);refine ag λG g1=>?_
  obtain⟨pa,oe,vs,C,m,he,hc,k7⟩:=id lw;refine g1 ?_;refine((J.2 nm C ((sy R.gd.g k7.2.1 nm).trans k7.2.2.1)).1 (contains_iff_mem.mp hy.1) prog w _ _ {s₁ with heap:=cy} a oe aF.base he ⟨hc.1,hc.2,vs,k7.1⟩).1 _ ?_;dsimp only;refine codeAny_handlers_suite_as (xk (s:= {s₁ with heap:=cy}) lw λeK pE yR=>?_);have iJ:Step y bv own Z s ac aw {s₁ with heap:=eK}:=aY.lv aF pE (λb p=>p) λaa f=>f.elim
  refine ag λG1 g2=>?_
  obtain⟨pa,oe,vs,C,m,he,hc,k7⟩:=yR;have qD:=(Inv.lv (s:= {s₁ with heap:=cy}) aF pE (λb p=>p.2) λaa f=>f.elim).addZ pa.2.1 pa.2.2.1 he;refine aX (ok.loc hx.1) λl hl=>?_
  have M9:=ok.bvi hx.1 λq=>hy.2 (contains_iff_mem.mpr q)
  refine g2 ?_;refine fA (s:= {s₁ with heap:=eK}) Nm hx.1 (ok.nf x i hx.1) hl qD λjZ tk PT=>?_
  have sv:dA jZ (λb=>aw b\/b=a) (λb=>ac b=some i) (.exc nm) (.ref a):=by
   refine iM (id R.gd.g) λo es ep Q=>?_
   have zm:aw mainGlobals\/mainGlobals=a:=.inl (ai.zb _ o Q.1);refine⟨a,oe,C,mg,rfl,.inr rfl,PT.keep a oe (λq=>qD.zl i l hl (.inr q.symm)) he,⟨hc.1,hc.2,vs,k7.1⟩,zm,?_,(sy R.gd.g k7.2.1 nm).trans k7.2.2.1⟩;exact(R.gd.g.keeps qD.base).at' λo e=>PT.keep _ o (λq=>qD.zl i l hl (q▸zm)) e
  have sw:Step y bv own Z s ac (λb=>aw b\/b=a) {s₁ with heap:=jZ,toks:=tk}:=(iJ.addZ pa.1).trans ((PT.step (s:= {s₁ with heap:=eK}) hl qD).sub λj hj=>by refine Er (mem_singleton.mp hj) ?_;exact M9);refine YW (Hh a ac _ {s₁ with heap:=jZ,toks:=tk} _ _ hh ((qD.chg hl PT.keep PT.oth PT.ok PT.ns PT.si).setSl hl PT.rd sv) (S.trans sw)) (λfl oU p=>?_) λaa aA x=>x.elim
  obtain⟨k',rc,F3,q,f9,qy,r⟩:=p;obtain rfl:=iE q;have th:=(ok.kd x).trans J7;have y5:l = .dict env.locals x:=by
   rcases ok.en.var x i hx.1 with⟨_,e⟩|⟨q|⟨q,_⟩,_⟩
   .rw[hl]at e;exact Y9 e
   .have q:=th▸q;cases q
   .have q:=th▸q;cases q
  subst y5;obtain⟨N2,Co⟩:=f9.ok i _ hl;refine wpAny_nameGoes_keeps th Co (by refine Er ok.en.kind ?_;rfl) λuE v ml sb=>?_
  have kp:∀b o,b≠env.locals->oU.heap.get? b=some o->uE.get? b=some o:=λb o q e=>sb.extBut b o q e
  have oth:∀j k w,j≠i->y.loc j=some k->eG oU.heap k w->eG uE k w:=λj k w hj hk r=>by
   by_cases q:k.addr=env.locals
   .obtain⟨x',e1,K4⟩:=(f9.wf.apart j i k _ hk hl hj q).dict'
    subst e1;refine aX r λm' r=>?_
    refine⟨_,ml,?_⟩;refine Er (Y1 K4) ?_;rw[<- sy r.1 Co];exact Er r.2 rfl
   .exact r.keeps λo e=>kp _ o q e
  have Ei:∀j k,y.loc j=some k->nI uE k:=λj k hk=>by
   by_cases q:k.addr=env.locals
   .cases k with
    |dict b z=>cases q;exact⟨_,ml⟩
    |cell b=>
     refine ag λG3 g4=>?_
     by_cases ti:j=i
     .refine g4 ?_
      subst ti;have hk:=hl▸hk;cases hk
     .refine g4 ?_
      refine aX ((f9.wf.apart j i _ _ hk hl ti q).dict') λaa q2=>?_;cases q2.1
    |attr b ns z=>
     by_cases ti:j=i
     .subst ti;have hk:=hl▸hk;cases hk
     .refine aX ((f9.wf.apart j i _ _ hk hl ti q).dict') λaa q0=>?_;cases q0.1
   .exact(f9.ok j k hk).keeps λo e=>kp _ o q e
  have nsL:∃m,uE.Ns y.L m:=by
   by_cases q:y.L=env.locals
   .exact⟨_,q▸ml⟩
   .exact aX f9.nsL λm hm=>(⟨m,hm.sameBut sb q⟩)
  have CW:Step y bv rc F3 oU rc F3 {oU with heap:=uE,toks:=oU.toks+1}:=by
   refine⟨⟨_,_,rfl⟩,⟨λb o e nw aa=>kp b o (λq=>nw (.inr (.inr ⟨i,_,hl,q.symm⟩))) e,λb o e=>?_,λb o f e=>⟨o.slots,kp b o (λq=>f9.wf.nf i _ hl (q▸f)) e⟩⟩,λaa z=>z,λaa z=>.inl z,λaa aA e=>.inl e,λj k w nb hk r=>oth j k w (λq=>nb (q▸M9)) hk r⟩
   by_cases q:b=env.locals
   .subst q;refine iM ml λo' aa aA ml=>?_;have e':=ml.1;exact⟨o',e'⟩
   .exact⟨o,kp b o q e⟩
  refine kQ _ _ ⟨k,rc,F3,rfl,f9.chg hl kp oth Ei nsL (ok.en.nsi x i hx.1),(sw.trans qy).trans CW,?_⟩;cases k with
  |next=>exact r
  |ret rv=>
   obtain⟨v,rfl,r,d,hd⟩:=r;exact⟨v,rfl,CW.rv f9 (λj hj=>by have hj:=(jt hd)▸hj;cases hj) r,d,hd⟩
 .rw[hb,zq]at h
  obtain rfl:=aI h;refine YW (Hb own Z s fr _ hb I S) (λfl s' p=>?_) λaa aA x=>x.elim
  obtain⟨k',ae,Z',q,I',S',r⟩:=p;obtain rfl:=iE q;cases k with
  |next=>cases r;exact wpAny_execs_nil (kQ _ _ ⟨.next,ae,Z',rfl,I',S',rfl⟩)
  |ret rv=>exact aX r λv r=>(Er r.1 (kQ _ _ ⟨.ret rv,ae,Z',rfl,I',S',v,rfl,r.2⟩))
theorem Hf {st:Stmt}:ly A c y bv ak Z₀ s₀ (exec st env) .no:=by
 intro own Z s fr out h I S;exact ah h
set_option tactic.hygienic true in
theorem yL {is:List Nat} (h:asgT pin fr (.tup is) r=some ax):∃ds,bQ r=some (.tuple ds)/\qu pin fr is ds=some ax:=by
 have h:(match bQ r with|some (.tuple ds)=>qu pin fr is ds|_=>none)=some ax:=h
 split at h
 .rename_i ds hd;exact⟨ds,hd,h⟩
 .exact ah h
theorem E4 {is:List Nat} {e:Ex} {out:Except Str dH×Fm} (h:mB c (.asg (.tup is) e) fr=some out):c.hd=false/\du (k:=⟨λr fr=>match asgT c.pin fr (.tup is) r with|some fr=>some (.ok .next,fr)|none=>none⟩) (ev c e fr)=some out:=by
 rw[kb]at h;cases hh:c.hd with
 |true=>rw[hh]at h;exact ah h
 |false=>rw[hh]at h;exact⟨rfl,h⟩
set_option tactic.hygienic true in
theorem zH {is:List Nat} {k:Nat} {p:Pos} {e:Ex} (R:Rn A c n) (ok:cX A sc env y c bv ak) (tg:TGs sc es is) (ce:CE sc value e) (hc:dK value=true) (ht:pv value=true):
  ly A c y bv ak Z₀ s₀ (exec (.Assign [.Tuple es k p] value pos) env) (.asg (.tup is) e):=by
 intro own Z s fr out h I S;have Q:=E4 h;have fL:=Q.1;have h:=Q.2;refine Assign_Tuple (o8 ok.en ce (bj R sc _ ce env y ok.en).1 h I .refl λr ax av aR aG v bn h aF bb aY fy=>?_) (show swapsWith value (some (.Tuple es k p)) pos.line env=pure false from eU ce hc) (qQ ce ht)
 split at h
 .rename_i jP he
  refine Er (aI h).symm ?_;refine ag λG g=>?_
  refine aX (yL he) λds q=>?_
  obtain⟨f6,gf,iJ,vA⟩:=fy.freeze aF bb q.1;exact g (sG (t:=.tup is) ok (R.hh fL) (.tup (k:=k) (p:=p) tg) (d:=.tuple ds) q.2 gf vA λs' aa I' S'=>(⟨.next,av,f6,rfl,I',(iJ.sub λaa h=>by cases h).trans S',rfl⟩))
 .exact ah h
end
section
variable {A:Around} {c:cR} {n:Nat} {env:Env} {sc:Sc} {y:Lay} {bv:List Nat} {ak:Addr->Option Nat} {Z₀:Addr->Prop} {s₀:Shared}
def SQ (A:Around) (c:cR) (y:Lay) (bv:List Nat) (ak:Addr->Option Nat) (Z₀:Addr->Prop) (s₀:Shared) (env:Env):Sw->Prop
 |.st s z=>ly A c y bv ak Z₀ s₀ (exec s env) z
 |.ss ss zs=>SS A c y bv ak Z₀ s₀ (execs ss env) zs
theorem Rn.mark (R:Rn A c n) (a:Addr):Rn (A.mark (some (.ref a))) {c with hd:=true} n:=⟨R.gd,R.cs,R.dep,R.un,λq=>by cases q⟩
theorem cX.mark (ok:cX A sc env y c bv ak) (a:Addr):cX (A.mark (some (.ref a))) sc env y {c with hd:=true} bv ak:=⟨{ok.en with stk:=ok.en.stk,top:=ok.en.top},ok.nf,ok.bv,ok.ni,ok.kd,ok.le,ok.lv,ok.sl⟩
theorem DF {sc:Sc} {ss:List Stmt} {zs:List St} (h:JW sc ss zs):∀(A:Around) (c:cR) (y:Lay) (bv:List Nat) (R:Rn A c n) (ok:cX A sc env y c bv ak),SS A c y bv ak Z₀ s₀ (execs ss env) zs:=
 @CT.rec (λsc q aa=> ∀(A:Around) (c:cR) (y:Lay) (bv:List Nat) (R:Rn A c n) (ok:cX A sc env y c bv ak),SQ A c y bv ak Z₀ s₀ env q)
  (λhx ce A c y bv R ok=>DD R ok hx ce) (λhx ce hc A c y bv R ok=>zI R ok hx ce hc) (λhx ce ck A c y bv R ok=>zD R ok hx ce ck) (λhx ce hp A c y bv R ok=>DE R ok hx ce hp) (λhx hp A c y bv R ok=>Dv R ok hx hp) (λhf hx hl yE hn A c y bv R ok=>Dz R ok hf hx hl yE hn) (λce hc A c y bv R ok=>DC R ok ce hc)
  (λce aa aA ia ib A c y bv R ok=>DA R ok ce (ia A c y bv R ok) (ib A c y bv R ok)) (λce A c y bv R ok=>Dw R ok ce) (λA c y bv R ok=>zE)
  (λtg de aa ib A c y bv R ok=>DB R ok tg de (ib A c y bv R ok)) (λce aa ib A c y bv R ok=>Dt R ok ce (ib A c y bv R ok)) (λhg hk A c y bv R ok=>vR R ok hg hk) (λhx hl LN hs aa aA ib ih A c y bv R ok=>Du R ok hx hl LN hs (ib A c y bv R ok) λa=>ih _ _ y bv (R.mark a) (ok.mark a))
  (λtg ce h1 h2 A c y bv R ok=>zH R ok tg ce h1 h2) (λA c y bv R ok=>Hf) (λA c y bv R ok=>Dx) (λaa aA i1 i2 A c y bv R ok=>zG (i1 A c y bv R ok) (i2 A c y bv R ok))
  (λpR hg hx yE df aa ib A c y bv R ok=>Dy R ok pR hg hx yE df λy' bv' NY=>ib A c y' bv' R NY) sc (.ss ss zs) h
end
end Mv
namespace Mv
open PySem PyProof.Rows
noncomputable def bp (fn:Fn) (sn:Str):List Str:=if fn.na=0 then [] else [sn]
noncomputable def lH (d:DefRec) (fn:Fn) (names:List Str) (sn:Str):Sc:= {names:=d.scope.names,vars:=names.zipIdx fn.na,hi:=fn.na+(names++bp fn sn).length,sn:=sn,ats:=tb.an.zip (List.range fn.na)}
structure C4 (f:Nat) (d:DefRec) (fn:Fn) (names:List Str) (sn:Str):Prop where
 nd:(names++bp fn sn).Nodup
 np:fn.np<=fn.na+names.length
 pn:fn.na<=fn.np
 na:fn.na=if f<tb.m0 then 0 else tb.an.length
 rb:fn.rb=kI f
 kinds:∀x∈names,d.scope.names.lookup x=some .local\/d.scope.names.lookup x=some .cell
 skind:∀x∈bp fn sn,d.scope.names.lookup x=some .local
 bind:∀(J:Ins) (vs:List Value),j7 J=fn.na->fn.na+vs.length=fn.np-> ∀fP pm code gk,bindArgs (methDef d.name fP d.params d.body d.scope pm code gk) ⟨iR J++vs,[]⟩=pure ((bp fn sn++names.take (fn.np-fn.na)).zip (iR J++vs))
 body:JW (lH d fn names sn) d.body fn.body
 co:d.scope.isCoroutine=false
 gen:d.scope.isGenerator=false
 kind:d.scope.kind = .function
 nofree:∀x∈d.scope.names,x.2≠ .free
variable [Hp]
theorem so {k:Str->Option NameKind}:∀(bs:List (Str×Value)) (m:Str->Option Value) (x:Str),x∉bs.map (·.1)->bindL k bs m x=m x:=by
 intro r m x h
 induction r generalizing m x with
 |nil=>exact rfl
 |cons p0 r ih=>
  simp only[Zz,Zv,not_or]at h;unfold bindL;refine Er (ih _ x h.2) ?_
  split
  .exact Y1 h.1
  .rfl
theorem jJ {k:Str->Option NameKind}:∀(bs:List (Str×Value)) (m:Str->Option Value) (i:Nat) (x:Str) (v:Value),(bs.map (·.1)).Nodup->bs[i]? = some (x,v)->k x=some .local->bindL k bs m x=some v
 |[],_,_,_,_,_,h,_=>by simp at h
 |(n,u)::r,m,0,x,v,hn,h,hk=>by
  simp at h;obtain⟨rfl,rfl⟩:=h;unfold bindL;refine Er (so r _ n (nodup_cons.mp hn).1) (Er (Y0 hk) ?_);simp
 |(n,u)::r,m,i+1,x,v,hn,h,hk=>by
  unfold bindL;exact jJ r _ i x v (nodup_cons.mp hn).2 h hk
theorem sp {k:Str->Option NameKind}:∀(bs:List (Str×Value)) (m:Str->Option Value) (x:Str),x∉bs.map (·.1)->bindC k bs m x=m x:=by
 intro r m x h
 induction r generalizing m x with
 |nil=>exact rfl
 |cons p0 r ih=>
  simp only[Zz,Zv,not_or]at h;unfold bindC;refine Er (ih _ x h.2) ?_
  split
  .rfl
  .exact Y1 h.1
theorem mV {k:Str->Option NameKind}:∀(bs:List (Str×Value)) (m:Str->Option Value) (i:Nat) (x:Str) (v:Value),(bs.map (·.1)).Nodup->bs[i]? = some (x,v)->k x≠some .local->bindC k bs m x=some v
 |[],_,_,_,_,_,h,_=>by simp at h
 |(n,u)::r,m,0,x,v,hn,h,hk=>by
  simp at h;obtain⟨rfl,rfl⟩:=h;unfold bindC;refine Er (sp r _ n (nodup_cons.mp hn).1) (Er (Y1 hk) ?_);simp
 |(n,u)::r,m,i+1,x,v,hn,h,hk=>by
  unfold bindC;exact mV r _ i x v (nodup_cons.mp hn).2 h hk
theorem lQ:∀(names:List (Str×NameKind)) (n:Nat) (acc:List (Str×Addr)) (p:Str×Addr),p∈acc->p∈cellsFrom n names acc:=by
 intro r n acc p h
 induction r generalizing n acc p h with
 |nil=>exact h
 |cons p0 r ih=>
  unfold cellsFrom
  split
  .exact ih _ _ p (Zu _ h)
  .exact ih _ _ p h
theorem lP:∀(names:List (Str×NameKind)) (n:Nat) (acc:List (Str×Addr)) (x:Str),(x,NameKind.cell)∈names-> ∃c,(x,c)∈cellsFrom n names acc:=by
 intro r n acc x h
 induction r generalizing n acc x with
 |nil=>cases h
 |cons p0 r ih=>
  obtain⟨nm,k⟩:=p0;unfold cellsFrom
  rcases mem_cons.mp h with q|h
  .cases q
   exact Er (Y0 (by decide)) (⟨n,lQ r _ _ _ Zt⟩)
  .split
   .exact ih _ _ x h
   .exact ih _ _ x h
theorem fg:∀ {names:List Str} {x:Str} {i k:Nat},(names.zipIdx k).lookup x=some i->k<=i/\names[i-k]? = some x:=by
 intro l x i k h
 induction l generalizing x i k with
 |nil=>exact ah h
 |cons a l ih=>
  rw[zipIdx_cons,ZC]at h;cases hx:x==a with
  |true=>
   rw[hx]at h;refine Er (aI h) ?_;simp only[beq_iff_eq]at hx;subst hx;exact⟨Zi _,by simp⟩
  |false=>
   have q:=ih (hx▸h);refine⟨by exact(L1 [k,i] .x .y (.p 1 .x) .y rfl q.1),?_⟩;obtain⟨m,rfl⟩:∃m,i=k+1+m:=⟨i-(k+1),by exact(Le [i,k,i-(k+(1:Nat))] (.e .x (.a (.p 1 .y) .z)) [Gq (.a .z (.p 1 .y)) .x] rfl (Zd (n:=i) (m:=k+(1:Nat)) q.1))⟩
   refine Er (show k+1+m-k=m+1 from by exact(Le [k+(1:Nat)+m-k,m,k] (.e .x (.p 1 .y)) [Gp (.a .x .z) (.a (.p 1 .z) .y)] rfl (Zd (n:=k+(1:Nat)+m) (m:=k) (L1 [k,m] .x (.a (.p 1 .x) .y) (.p 1 .x) (.a (.p 1 .x) .y) rfl q.1)))) (Er (List.getElem?_cons_succ) ?_);exact((show k+1+m-(k+1)=m from by exact(Le [k+(1:Nat)+m-(k+(1:Nat)),m,k] (.e .x .y) [Gp (.a .x (.p 1 .z)) (.a (.p 1 .z) .y)] rfl (Zd (n:=k+(1:Nat)+m) (m:=k+(1:Nat)) q.1)))▸q.2)
noncomputable def jQ (kindOf:Str->Option NameKind) (L:Addr) (cells:List (Str×Addr)) (names:List Str) (i:Nat):Option Loc:=match names[i]? with
 |none=>none
 |some x=>if kindOf x=some .local then some (.dict L x) else(cells.lookup x).map .cell
set_option tactic.hygienic true in
theorem rK {k:Str->Option NameKind} {L:Addr} {cells:List (Str×Addr)} {names:List Str} (h:jQ k L cells names i=some l):
  ∃x,names[i]? = some x/\((k x=some .local/\l = .dict L x)\/(k x≠some .local/\ ∃c,cells.lookup x=some c/\l = .cell c)):=by
 unfold jQ at h
 split at h
 .exact ah h
 .rename_i x hx
  refine⟨x,hx,?_⟩
  split at h
  .rename_i hk;exact Er (aI h) (.inl ⟨hk,rfl⟩)
  .rename_i hk
   rw[Za]at h;obtain⟨c,h⟩:=h;refine Er h.2.symm ?_;have hc:=h.1;exact .inr ⟨hk,c,hc,rfl⟩
theorem pd:∀ {args:List Slot} {k j:Nat} {sl:Slot},args[j]? = some sl->sl.lent=true->k+j∈iC k args
 |[],_,_,_,h,_=>by simp at h
 |a::r,k,0,sl,h,hl=>by
  simp at h;subst h;rw[pg];exact Er (Y0 hl) Zt
 |a::r,k,j+1,sl,h,hl=>by
  have:=pd (k:=k+1) (j:=j) (args:=r) h hl;rw[show k+1+j=k+(j+1) from by exact(Le [k,j] (.e (.a (.p 1 .x) .y) (.a .x (.p 1 .y))) [] rfl)]at this;rw[pg]
  split
  .exact Zu _ this
  .exact this
set_option tactic.hygienic true in
theorem Ad:∀ {args:List Slot} {vs:List Value} {fr:Fm} {k:Nat},(∀(j:Nat) (sl o:Slot) (v:Value),args[j]? = some sl->sl.lent=true->vs[j]? = some v->fr[j]? = some o->o≠ .no->dA h Z' (λa=>ae a=some (k+j)) o v)->f7 ae Z' h k args vs (gD args fr):=by
 intro r vs fr k H
 induction r generalizing vs fr k with
 |nil=>first|exact trivial|(cases vs<;>exact trivial)
 |cons a r ih=>
  cases vs with
  |nil=>exact trivial
  |cons v vs=>
    have tl:∀(j:Nat) (sl o:Slot) (u:Value),r[j]? = some sl->sl.lent=true->vs[j]? = some u->fr.tail[j]? = some o->o≠ .no->dA h Z' (λa=>ae a=some (k+1+j)) o u:=λj sl o u e1 hl e2 e3 n=>by
     have:=H (j+1) sl o u e1 hl e2 (by
      cases fr with
      |nil=>simp at e3
      |cons x xs=>simpa using e3) n
     rwa [show k+(j+1)=k+1+j from by exact(Le [k,j] (.e (.a .x (.p 1 .y)) (.a (.p 1 .x) .y)) [] rfl)]at this
    rw[qA,wq]
    split
    .rename_i hl
     refine⟨fr.headD .no,gD r fr.tail,rfl,λn=>?_,(ih tl)⟩;cases fr with
     |nil=>exact absurd rfl n
     |cons x xs=>exact H 0 a x v rfl hl rfl rfl n
    .exact(ih tl)
theorem lZ {l:List Str} (hn:l.Nodup) (hi:i<l.length) (h:l[i]? = l[j]?):i=j:=by
 exact(List.getElem?_inj hi hn).mp h
end Mv
end
variable {is:List Int}
section
namespace Mv
open PySem PyProof.Rows
variable [Hp]
noncomputable def bO (J:Ins) (fn:Fn) (env:Env) (names:List Str) (sn:Str) (F:Addr->Prop):Lay:=
 ⟨λj=>if j<fn.na then jC J j else jQ env.kindOf env.locals env.cells (names++bp fn sn) (j-fn.na),env.locals,F,fn.na+names.length,J.map λt=>(t.1,t.2.1)⟩
section
variable {J:Ins} {fn:Fn} {env:Env} {names:List Str} {sn:Str} {F:Addr->Prop} {j k:Nat} {l:Loc} {x:Str}
inductive BS (J:Ins) (fn:Fn) (env:Env) (nms:List Str) (j:Nat):Loc->Prop
 |att {l:Loc}:j<fn.na->jC J j=some l->BS J fn env nms j l
 |loc {x:Str}:fn.na<=j->nms[j-fn.na]? = some x->env.kindOf x=some .local->BS J fn env nms j (.dict env.locals x)
 |cell {x:Str} {c:Addr}:fn.na<=j->nms[j-fn.na]? = some x->env.cells.lookup x=some c->BS J fn env nms j (.cell c)
theorem cm (h:(bO J fn env names sn F).loc j=some l):BS J fn env (names++bp fn sn) j l:=by
 have h:(if j<fn.na then jC J j else jQ env.kindOf env.locals env.cells (names++bp fn sn) (j-fn.na))=some l:=h
 by_cases q:j<fn.na
 .rw[Y0 q]at h;exact .att q h
 .rw[Y1 q]at h
  obtain⟨x,hx,⟨hk,rfl⟩|⟨_,c,hc,rfl⟩⟩:=rK h
  .exact .loc (Nat.not_lt.mp q) hx hk
  .exact .cell (Nat.not_lt.mp q) hx hc
theorem n6 (h:(names++bp fn sn)[k]? = some x) (hk:env.kindOf x=some .local):(bO J fn env names sn F).loc (fn.na+k)=some (.dict env.locals x):=by
 show(if fn.na+k<fn.na then _ else jQ _ _ _ _ (fn.na+k-fn.na))=_
 refine Er (Y1 (Nat.not_lt.mpr (Zl _ _))) ?_;rw[Zm];unfold jQ;exact Er h (Y0 hk)
theorem tz {c:Addr} (h:(names++bp fn sn)[k]? = some x) (hk:env.kindOf x=some .cell) (hc:env.cells.lookup x=some c):(bO J fn env names sn F).loc (fn.na+k)=some (.cell c):=by
 show(if fn.na+k<fn.na then _ else jQ _ _ _ _ (fn.na+k-fn.na))=_
 refine Er (Y1 (Nat.not_lt.mpr (Zl _ _))) ?_;rw[Zm];unfold jQ;refine Er h ?_;show(if env.kindOf x=some .local then _ else _)=_
 refine Er (Y1 (by refine Er hk ?_;intro z;cases z)) (Er hc ?_);rfl
theorem i4 (h:j<fn.na):(bO J fn env names sn F).loc j=jC J j:=Y0 h
end
theorem qI {l:List Str} {k:Nat} (h:x∈l):(l.zipIdx k).lookup x≠none:=by
 induction l generalizing k with
 |nil=>cases h
 |cons a l ih=>
  refine Er zipIdx_cons (Er ZC ?_);cases e:x==a with
  |true=>exact λq=>ah q.symm
  |false=>
   rcases mem_cons.mp h with q|q
   .rw[q]at e;simp at e
   .exact ih q
theorem JF:tb.an.Nodup:=by show Nodup [("functions" :Str),"most","calls","tasks","told"]; decide
theorem yO:tb.an.length≠0:=by show 5≠0;decide
structure CC (J:Ins) (fn:Fn) (d:DefRec) (names:List Str) (sn:Str) (env:Env) (F:Addr->Prop) (own:Addr->Option Nat) (Z:Addr->Prop) (s s₁:Shared) (args:List Slot) (vs:List Value):Prop where
 na:j7 J=fn.na
 nd:(names++bp fn sn).Nodup
 kinds:∀x∈names,env.kindOf x=some .local\/env.kindOf x=some .cell
 skind:∀x∈bp fn sn,env.kindOf x=some .local
 kd:∀x,env.kindOf x=d.scope.names.lookup x
 up:∀b o,s.heap.get? b=some o->b<env.locals
 kp:∀b o,s.heap.get? b=some o->s₁.heap.get? b=some o
 same:∃h tk,s₁={s with heap:=h,toks:=tk}
 ns:∃m,s₁.heap.Ns env.locals m
 cl:∀x c,env.cells.lookup x=some c->env.locals<c/\ ∃v,s₁.heap.IsCell c v
 ca:∀x z c,env.cells.lookup x=some c->env.cells.lookup z=some c->x=z
 cx:∀x,env.kindOf x=some .cell-> ∃c,env.cells.lookup x=some c
 ar:∀(k:Nat) (v:Value),vs[k]? = some v-> ∃l,(bO J fn env names sn F).loc (fn.na+k)=some l/\eG s₁.heap l v
 sr:∀x o dx,J=some (x,o,dx)->eG s₁.heap (.dict env.locals sn) (.ref x)
 G:Gh F own Z s.heap
 IJ:sA F own Z s.heap J
 SA:hO J own Z s.heap args vs
section
variable {A:Around} {J:Ins} {fn:Fn} {d:DefRec} {env:Env} {names:List Str} {sn:Str} {F:Addr->Prop} {own ae:Addr->Option Nat} {Z Z':Addr->Prop} {s s₁ s':Shared} {args:List Slot} {vs:List Value} {bv:List Nat} {cT:Fm}
theorem kC (h:fn.na≠0):bp fn sn=[sn]:=Y1 h
theorem CC.att (C:CC J fn d names sn env F own Z s s₁ args vs) (h:jC J i=some l):∃x o dx a,J=some (x,o,dx)/\l = .attr dx tb.an a/\tb.an[i]? = some a/\t3 F own Z s.heap x o dx/\dx<env.locals:=by
 rcases J with _|⟨x,o,dx⟩
 .exact ah h
 .obtain⟨a,q⟩:=Z9 h;refine Er q.2.symm ?_
  refine⟨x,o,dx,a,rfl,rfl,q.1,(C.IJ x o dx rfl),?_⟩;obtain⟨m,⟨o',_,_,e,_⟩,_⟩:=(C.IJ x o dx rfl).ok;exact C.up dx o' e
theorem CC.jna (C:CC J fn d names sn env F own Z s s₁ args vs) (h:J≠none):fn.na=tb.an.length/\fn.na≠0:=by
 rcases J with _|j
 .exact absurd rfl h
 .exact⟨C.na.symm,λq=>yO (C.na.trans q)⟩
theorem CC.locA (C:CC J fn d names sn env F own Z s s₁ args vs) (h:i<fn.na):∃l,jC J i=some l:=by
 have h:=C.na▸h
 rcases J with _|⟨x,o,dx⟩
 .cases h
 .exact⟨.attr dx tb.an (tb.an[i]'h),by show Option.map _ _=_;refine Er (ZK h) ?_;rfl⟩
theorem CC.lg (C:CC J fn d names sn env F own Z s s₁ args vs) (h:(bO J fn env names sn F).loc i=some l):env.locals<=l.addr\/jC J i=some l:=by
 cases cm h with
 |att q e=>exact .inr e
 |loc=>exact .inl (Zi _)
 |cell _ _ hc=>exact .inl (le_of_lt (C.cl _ _ hc).1)
inductive F8 (y:Lay) (env:Env) (i:Nat) (x:Str):Prop
 |loc:y.loc i=some (.dict env.locals x)->env.kindOf x=some .local->F8 y env i x
 |cell (c:Addr):y.loc i=some (.cell c)->env.kindOf x=some .cell->env.cells.lookup x=some c->F8 y env i x
theorem CC.locS (C:CC J fn d names sn env F own Z s s₁ args vs) {k:Nat} (h:names[k]? = some x):F8 (bO J fn env names sn F) env (fn.na+k) x:=by
 have h':(names++bp fn sn)[k]? = some x:=by exact Er (ZM (List.getElem?_eq_some_iff.mp h).1) h
 rcases C.kinds x (Zs h) with q|q
 .exact .loc (n6 h' q) q
 .exact aX (C.cx x q) λc hc=>(.cell c (tz h' q hc) q hc)
theorem CC.self (C:CC J fn d names sn env F own Z s s₁ args vs) (h:J≠none):(names++bp fn sn)[names.length]? = some sn/\env.kindOf sn=some .local/\(bO J fn env names sn F).loc (fn.na+names.length)=some (.dict env.locals sn):=by
 have e:=kC (sn:=sn) (C.jna h).2;have h1:(names++bp fn sn)[names.length]? = some sn:=by refine Er (ZL (Zi _)) ?_;rw[Nat.sub_self];refine Er e ?_;rfl
 have h2:=C.skind sn (by refine Er e ?_;exact .head _);exact⟨h1,h2,n6 h1 h2⟩
theorem CC.ats (C:CC J fn d names sn env F own Z s s₁ args vs):(lH d fn names sn).as=List.range fn.na:=by
 refine List.map_snd_zip ?_;refine Er ZE ?_
 rcases J with _|j
 .exact C.na▸Zc _
 .exact Zj C.na.symm
theorem CC.no (C:CC J fn d names sn env F own Z s s₁ args vs):(lH d fn names sn).ats=[]↔J=none:=by
 rcases J with _|j
 .refine⟨λaa=>rfl,λaa=>?_⟩
  show tb.an.zip (List.range fn.na)=[]
  exact Er C.na.symm List.zip_nil_right
 .refine⟨λq=>?_,λq=>ah q.symm⟩
  have h1:((lH d fn names sn).as).length=0:=by unfold Sc.as;refine Er q ?_;rfl
  rw[C.ats,ZE]at h1;exact absurd h1 (C.jna (λq=>ah q.symm)).2
theorem CC.insOk (C:CC J fn d names sn env F own Z s s₁ args vs) {x:Addr} {o:Obj} (hJ:J=some (x,o,dx)):jV (lH d fn names sn) env (bO J fn env names sn F) (x,o) dx:=by
 have ia:=C.IJ x o dx hJ;have hn:J≠none:=by exact Er hJ (λq=>ah q.symm)
 have lo:∀ {k:Nat} {a:Str},tb.an[k]? = some a->(bO J fn env names sn F).loc k=some (.attr dx tb.an a):=fun {k a} h=>by
  refine Er (i4 (by refine Er ((C.jna hn).1) ?_;exact(List.getElem?_eq_some_iff.mp h).1)) (Er hJ ?_);show Option.map _ _=_
  refine Er h ?_;rfl
 have co:∀i l,(bO J fn env names sn F).loc i=some l->l.addr=dx->jC J i=some l:=λi l h q=>by
  rcases C.lg h with g|g
  .refine ag λG g1=>?_
   obtain⟨m,⟨o',_,_,e,_⟩,_⟩:=ia.ok;exact g1 (absurd (C.up dx o' e) (Nat.not_lt.mpr (q▸g)))
  .exact g
 refine⟨by unfold bO;refine Er hJ ?_;rfl,ia.cls,ia.nc,ia.dic,ia.ne,(C.self hn).2.1,(C.self hn).2.2,λa i h=>?_,λk i h=>?_,by refine Er C.ats (Er ZE ?_);exact(C.jna hn).1,λi l h q=>?_,λi l h q=>?_⟩
 .refine aX (kh h) λk u=>?_
  refine aX (List.getElem?_eq_some_iff.mp u.2) λh3 h4=>?_
  rw[getElem_range]at h4;subst h4;exact⟨Zs u.1,lo u.1⟩
 .have h:=C.ats▸h
  refine aX (List.getElem?_eq_some_iff.mp h) λh3 h4=>?_
  rw[getElem_range]at h4;subst h4;rw[ZE]at h3;have h3:=((C.jna hn).1)▸h3;exact⟨_,ZK h3,lo (ZK h3)⟩
 .refine Er C.ats ?_;rw[mem_range];exact Er C.na.symm ((eC (co i l h q)).1)
 .refine lM (C.att (co i l h q)) λaa aA bF a Q=>?_;have e1:=Q.1;have e2:=Q.2.1
  rw[hJ]at e1;cases e1;exact⟨a,e2⟩
theorem CC.en (C:CC J fn d names sn env F own Z s s₁ args vs) (Cy:BR F A) (hk:env.scope.kind = .function) (hg:env.globals=mainGlobals) (hb:env.builtins=builtinsNs) (hf:env.frame=some env.locals):aN (A.deeper env) (lH d fn names sn) env (bO J fn env names sn F):=by
 refine⟨?_,λi l h=>?_,hk,hg,hb,hf,(let ⟨l,hl,_⟩:=Cy;⟨env,l,Around.frames_deeper hl,rfl⟩),λx i hx=>?_,λx hx=>by rw[C.kd];exact hx,λx hx=>by rw[C.kd];exact hx,λne=>?_,λx i hx p hp q=>?_,λp hp=>?_⟩
 .refine aX Cy λl Cy=>?_
  refine⟨_,Around.frames_deeper Cy.1,λe he=>?_⟩
  rcases mem_cons.mp he with he|he
  .exact Er he (⟨(by refine Er hk ?_;intro q;cases q),_,hf,.inr rfl⟩)
  .obtain⟨h1,L,Q⟩:=Cy.2 e he;exact⟨h1,L,Q.1,.inl Q.2⟩
 .have k2:∀ {x:Str},fn.na<=i->(names++bp fn sn)[i-fn.na]? = some x->i<fn.na+(names++bp fn sn).length:=λq hx=>by
   have:=(List.getElem?_eq_some_iff.mp hx).1;exact(Ln [i,fn.4,(names++bp fn sn).length,i-fn.na] (.w (.p 1 .x) (.a .y .z)) [Gl (.p 1 .u) .z,Gf (.a .u .y) .x] rfl this (Zd (n:=i) (m:=fn.na) q))
  cases cm h with
  |att q=>exact Ze q (Zl _ _)
  |loc q hx=>exact k2 q hx
  |cell q hx=>exact k2 q hx
 .have U:=fg hx;have q:=U.1;have hx:=U.2
  have ls:=C.locS hx;have ls:=(Zn q)▸ls;cases ls with
  |loc hl hk=>exact .inl ⟨hk,hl⟩
  |cell c hl hk hc=>exact .inr ⟨.inl hk,c,hc,hl⟩
 .refine ag λG g1=>?_
  rcases hJ:J with _|⟨x,o,dx⟩
  .exact g1 (absurd (C.no.mpr hJ) ne)
  .exact g1 (⟨(x,o),dx,hJ▸C.insOk hJ⟩)
 .have j:=fg hx
  have:=(List.getElem?_eq_some_iff.mp j.2).1;exact(Lf [i-fn.na,names.length,fn.4,i] [Gl (.p 1 .x) .y,Ge (.a .z .y) .u,Gf (.a .x .z) .u] rfl this q (Zd (n:=i) (m:=fn.na) j.1))
 .have hn:J≠none:=λq=>by unfold bO at hp;have hp:=q▸hp;exact ah hp
  exact⟨_,(C.self hn).2.2⟩
set_option tactic.hygienic true in
theorem CC.inv (C:CC J fn d names sn env F own Z s s₁ args vs) (m:Nat):Inv (bO J fn env names sn F) own Z s₁.heap (args++replicate m .no):=by
 have sm:∀ {a b:Nat},a<b->b<=a->False:=λh k=>Zg _ (Ze h k)
 have lk:∀ {p:Prop} {i:Nat} {l:Loc},(bO J fn env names sn F).loc i=some l->(∃o,s.heap.get? l.addr=some o)->(∀x o dx a,l = .attr dx tb.an a->t3 F own Z s.heap x o dx->p)->p:=fun {p i l} h e k=>by
  rcases C.lg h with g|g
  .exact aX e λo e=>((sm (C.up _ o e) g).elim)
  .exact lM (C.att g) λx o dx a Q=>(k x o dx a Q.2.1 Q.2.2.2.1)
 refine⟨⟨λi j l k hl hk df hq=>?_,λi l hl f=>?_,λf=>?_,λi c hl q=>?_,λi a ns x hl q=>?_⟩,λb o e=>C.kp b o (C.G.base b o e),C.G.zb,C.G.zo,λi l hl z=>?_,λi l hl=>?_,λz=>?_,?_,C.G.zF,C.G.oF,λb z=>?_,λb q=>?_,λb f=>?_,λi l hl=>?_,C.ns,λp hp=>?_,λi sl e n=>?_⟩
 .have nd:∀ {x z:Str},fn.na<=i->fn.na<=j->(names++bp fn sn)[i-fn.na]? = some x->(names++bp fn sn)[j-fn.na]? = some z->x≠z:=λg1 g2 hx hz q=>by
   have:=lZ (i:=i-fn.na) (j:=j-fn.na) C.nd (List.getElem?_eq_some_iff.mp hx).1 (Er hx (Er hz (Er q rfl)));exact(Or.elim (Nat.lt_or_gt_of_ne df) (λwN=>(Lf [i-fn.na,j-fn.na,i,j,fn.4] [Gf .x .y,Gl (.p 1 .z) .u,Ge (.a .x (.v 4)) .z,Gf (.a .y (.v 4)) .u] rfl this wN (Zd (n:=i) (m:=fn.na) g1) (Zd (n:=j) (m:=fn.na) g2))) (λwN=>(Lf [i-fn.na,j-fn.na,j,i,fn.4] [Ge .x .y,Gl (.p 1 .z) .u,Gf (.a .x (.v 4)) .u,Ge (.a .y (.v 4)) .z] rfl this wN (Zd (n:=i) (m:=fn.na) g1) (Zd (n:=j) (m:=fn.na) g2))))
  cases cm hl with
  |att _ e=>
   refine lM (C.att e) λx o dx a U=>?_;obtain rfl:=U.2.1;have e1:=U.1;have ha:=U.2.2.1;have lt:=U.2.2.2.2
   cases cm hk with
   |att _ e'=>
    refine lM (C.att e') λx' o' Kk a' q8=>?_;refine Er q8.2.1 ?_;have Nn:=q8.1;have OC:=q8.2.2.1
    rw[e1]at Nn;cases Nn;exact .attr dx tb.an a a' rfl rfl λq=>df (lZ JF (List.getElem?_eq_some_iff.mp ha).1 (Er ha (Er OC (Er q rfl))))
   |loc=>exact(sm lt (Zj hq.symm)).elim
   |cell _ _ hc=>exact(sm (Nat.lt_trans lt (C.cl _ _ hc).1) (Zj hq.symm)).elim
  |loc g1 hx=>
   cases cm hk with
   |att _ e'=>
    refine lM (C.att e') λx' o' Kk a' q3=>?_;obtain rfl:=q3.2.1
    exact(sm q3.2.2.2.2 (Zj hq)).elim
   |loc g2 hz=>exact .dict _ _ _ rfl rfl (nd g1 g2 hx hz)
   |cell _ _ hc=>exact(sm (C.cl _ _ hc).1 (Zj hq.symm)).elim
  |cell g1 hx hc=>
   cases cm hk with
   |att _ e'=>
    refine lM (C.att e') λx' o' Kk a' q2=>?_;obtain rfl:=q2.2.1
    exact(sm (Nat.lt_trans q2.2.2.2.2 (C.cl _ _ hc).1) (Zj hq)).elim
   |loc=>exact(sm (C.cl _ _ hc).1 (Zj hq)).elim
   |cell g2 hz pS=>
    cases(hq:_=_);exact absurd (C.ca _ _ _ hc pS) (nd g1 g2 hx hz)
 .exact lk hl (let ⟨o,e,_⟩:=C.G.flv _ f;⟨o,e⟩) λx o dx a e ia=>ia.fd (by have f:=e▸f;exact f)
 .exact aX (C.G.flv _ f) λo NQ=>(Zg _ (C.up _ o NQ.1))
 .refine ag λG1 g3=>?_
  cases cm hl with
  |att _ e=>refine g3 ?_;refine lM (C.att e) λaa aA bF gy q1=>?_;have e2:=q1.2.1;cases e2
  |cell _ _ hc=>exact g3 (sm (C.cl _ _ hc).1 (Zj q))
 .cases cm hl with
  |att _ e=>refine lM (C.att e) λaa aA bF gy q9=>?_;have e2:=q9.2.1;have lt:=q9.2.2.2.2;cases e2;exact sm lt (Zj q.symm)
 .exact lk hl (C.G.zlv _ z) λx o dx a e ia=>ia.zd (by have z:=e▸z;exact z)
 .cases q:own l.addr with
  |none=>rfl
  |some k=>exact lk hl (C.G.olv _ (by refine Er q ?_;exact λz=>ah z.symm)) λx o dx a e ia=>by have q:=e▸q;have q:own dx=some k:=q;rw[ia.od]at q;exact ah q
 .exact aX (C.G.zlv _ z) λo e=>(Zg _ (C.up _ o e))
 .show own env.locals=none
  cases q:own env.locals with
  |none=>rfl
  |some k=>obtain⟨o,e⟩:=C.G.olv env.locals (by refine Er q ?_;exact λz=>ah z.symm);exact absurd (C.up _ o e) (Zg _)
 .obtain⟨o,e⟩:=C.G.zlv b z;exact⟨o,C.kp b o e⟩
 .obtain⟨o,e⟩:=C.G.olv b q;exact⟨o,C.kp b o e⟩
 .obtain⟨o,q6⟩:=C.G.flv b f;exact⟨o,C.kp b o q6.1,q6.2⟩
 .cases cm hl with
  |att _ e=>
   refine lM (C.att e) λaa aA bF gy q0=>?_;refine Er q0.2.1 ?_
   exact nI.keeps (l:=.attr _ tb.an _) (h:=s.heap) (λo=>C.kp _ o) q0.2.2.2.1.ok
  |loc=>exact C.ns
  |cell _ _ hc=>exact(C.cl _ _ hc).2
 .rcases hJ:J with _|⟨x,o,dx⟩
  .subst hJ;cases(hp:none=some p)
  .have ia:=C.IJ x o dx hJ
   have hn:J≠none:=by exact Er hJ (λq=>ah q.symm)
   have q4:=C.self hn;have s3:=q4.2.2;have hp:=(show(bO J fn env names sn F).slf=some (x,o) by unfold bO;refine Er hJ ?_;rfl)▸hp;exact Er (aI hp).symm (Er hJ.symm (⟨ia.zx,C.kp _ _ ia.ob,_,s3,C.sr x o dx hJ⟩))
 .rw[List.getElem?_append]at e
  split at e
  .rename_i uI
   by_cases hi:i<fn.na
   .exact aX (C.locA hi) λl hl=>(aX (C.SA.2.1 i sl l e hl n) λv q7=>(⟨l,v,by refine Er (i4 hi) ?_;exact hl,q7.1.keeps λo=>C.kp _ o,q7.2.mono (λb o aa=>C.kp b o) (λaa z=>z) (λaa z=>z) λb o aa=>C.kp b o⟩))
   .obtain⟨k,rfl⟩:∃k,i=fn.na+k:=⟨i-fn.na,by exact(Zk (Ln [i,fn.4,i-fn.na] (.w .x (.a .y .z)) [Gf (.a .z .y) .x] rfl (Zd (n:=i) (m:=fn.na) (L1 [fn.4,i] .x .y .x .y rfl (Nat.not_lt.mp hi)))) (Ln [fn.4,i-fn.na,i] (.w (.a .x .y) .z) [Ge (.a .y .x) .z] rfl (Zd (n:=i) (m:=fn.na) (L1 [fn.4,i] .x .y .x .y rfl (Nat.not_lt.mp hi)))))⟩
    have hl:=C.SA.1;rw[C.na]at hl;have hv:k<vs.length:=by exact(Ln [k,vs.length,fn.4,args.length] (.w (.p 1 .x) .y) [Gl (.p 1 (.a .z .x)) .u,Ge .u (.a .z .y)] rfl uI hl)
    refine aX (C.ar k _ (ZK hv)) λl q5=>?_
    have sv:=(C.SA.2.2 k sl vs[k] (by refine Er C.na ?_;exact e) (ZK hv)).2;rw[C.na]at sv;exact⟨l,_,q5.1,q5.2,sv.mono (λb o aa=>C.kp b o) (λaa z=>z) (λaa z=>z) λb o aa=>C.kp b o⟩
  .rw[List.getElem?_replicate]at e
   split at e
   .obtain rfl:=aI e;exact absurd rfl n
   .exact ah e
theorem wV (hp:i∈pin):i∉(List.range m).filter λi=>decide (i∉pin):=λq=>by
 have:=(mem_filter.mp q).2;simp[hp]at this
theorem Ab {na k:Nat} (hk:k<na) (hn:k∉rb):k∈eW na rb args:=by
 refine Zx _ (mem_filter.mpr ⟨mem_range.mpr hk,?_⟩)
 simpa using hn
inductive qF (J:Ins) (rb:List Nat) (F:Addr->Prop) (own:Addr->Option Nat) (Z:Addr->Prop) (s:Shared) (args:List Slot) (vs:List Value) (aK:List Slot) (ae:Addr->Option Nat) (Z':Addr->Prop) (s':Shared):Prop
 |mk:Gh F ae Z' s'.heap->sA F ae Z' s'.heap J->y2 J rb F own Z s ae Z' s'->t4 J ae Z' s'.heap aK->j7 J<=aK.length->f7 ae Z' s'.heap (j7 J) (args.drop (j7 J)) vs (aK.drop (j7 J))->qF J rb F own Z s args vs aK ae Z' s'
theorem CC.back (C:CC J fn d names sn env F own Z s s₁ args vs) (I':Inv (bO J fn env names sn F) ae Z' s'.heap cT) (S':Step (bO J fn env names sn F) ((List.range m).filter λi=>decide (i∉eW fn.na fn.rb args)) own Z s₁ ae Z' s'):qF J fn.rb F own Z s args vs (dW fn.na args cT) ae Z' s':=by
 have fresh:∀b,s₁.heap.get? b=none->s.heap.get? b=none:=λb e0=>by
  cases z:s.heap.get? b with
  |none=>rfl
  |some o=>have e0:=(C.kp b o z)▸e0;cases e0
 have nwr:∀b o,s.heap.get? b=some o-> ¬(own b≠none\/uY J b)-> ¬(bO J fn env names sn F).wr own b:=λb o e q w=>by
  rcases w with w|w|⟨i,l,hl,w⟩
  .exact q (.inl w)
  .exact Zg _ (w▸C.up b o e)
  .rcases C.lg hl with g|g
   .exact Zg _ (Ze (C.up b o e) (w▸g))
   .exact q (.inr (w▸(eC g).2))
 have la:(er cT (List.range fn.na)).length=fn.na:=by unfold er;rw[ZG];exact Er ZE rfl
 refine⟨⟨I'.base,I'.zb,I'.zo,I'.zF,I'.oF,I'.zlv,I'.olv,I'.flv⟩,λx o dx hJ=>?_,⟨?_,⟨λb o e nw nf=>S'.ext.keep b o (C.kp b o e) (nwr b o e nw) nf,λb o e=>S'.ext.live b o (C.kp b o e),λb o f e=>S'.ext.fram b o f (C.kp b o e)⟩,S'.zm,λb z=>(S'.zn b z).imp id λz=>z.imp id (fresh b),λb i q=>(S'.on b i q).imp id (fresh b),λk l v hk hl hr=>?_⟩,λk sl l e hl n=>?_,?_,?_⟩
 .have ia:=C.IJ x o dx hJ
  have hn:J≠none:=by exact Er hJ (λq=>ah q.symm)
  have sf:=I'.sf (x,o) (by unfold bO;refine Er hJ ?_;rfl);have h0:=Nat.pos_of_ne_zero (C.jna hn).2;refine ag λG g1=>?_
  refine aX (C.locA h0) λl hl=>?_
  refine lM (C.att hl) λaa aA bF a Q=>?_;obtain rfl:=Q.2.1;have e1:=Q.1
  rw[hJ]at e1;cases e1;have hy:(bO J fn env names sn F).loc 0=some (.attr dx tb.an a):=by exact Er (i4 h0) hl
  exact g1 (⟨sf.z,sf.ob,ia.cls,ia.nc,ia.dic,ia.ne,I'.zl 0 _ hy,I'.ol 0 _ hy,ia.fd,I'.ok 0 _ hy⟩)
 .exact fM C.same λh1 OZ e1=>(fM S'.sh λh2 KB e2=>(⟨h2,KB,by exact Er e2 (Er e1 rfl)⟩))
 .have eF:k<fn.na:=C.na▸(eC hl).1
  exact S'.bind k l v (wV (Ab eF hk)) (by refine Er (i4 eF) ?_;exact hl) (hr.keeps λo=>C.kp _ o)
 .have eF:k<fn.na:=C.na▸(eC hl).1
  unfold dW at e;rw[ZM (by refine Er la ?_;exact eF)]at e;refine ag λG1 g2=>?_
  obtain⟨i,U⟩:=mX e n;obtain⟨h3,h4⟩:=List.getElem?_eq_some_iff.mp U.1;rw[getElem_range]at h4;subst h4;obtain⟨l',v,cz,hr,sv⟩:=I'.at' _ sl U.2 n;rw[i4 eF,hl]at cz;obtain rfl:=aI cz;exact g2 (⟨v,hr,sv⟩)
 .unfold dW;exact Er ZI (Er la (Er C.na (Zl _ _)))
 .refine Er C.na ?_
  unfold dW;refine Er (List.drop_append_of_le_length (Zj la.symm)) ?_;refine Er (List.drop_eq_nil_of_le (Zj la)) ?_;rw[Zq];refine Ad λj sl o v ej hl ev ef n=>?_
  refine ag λG2 g3=>?_
  refine aX (C.ar j v ev) λl u=>?_
  have ef:=(List.getElem?_drop)▸ef;obtain⟨l2,v2,rG,Ld,sv⟩:=I'.at' (fn.na+j) o ef n;rw[u.1]at rG;obtain rfl:=aI rG;exact g3 (Er ((S'.bind (fn.na+j) l v (wV (Zw _ (pd ej hl))) u.1 u.2).det Ld) sv)
end
noncomputable def sL:Except Str dH->Except Str Rv
 |.error e=>.error e
 |.ok .next=>.ok (.fz .none)
 |.ok (.ret r)=>.ok r
inductive y3 (P:Pr) (n:Nat) (hd:Bool) (f:Nat) (args:List Slot) (iL:Except Str Rv) (aK:List Slot):Prop
 |mk (fn:Fn) (fr:Fm) (o:Except Str dH):P.fns[f]? = some fn->args.length=fn.np->c9 ⟨P.glob,cF P n,eW fn.na fn.rb args,hd⟩ fn.body (args++replicate (fn.nv-fn.np) .no)=some (o,fr)->sL o=iL->dW fn.na args fr=aK->y3 P n hd f args iL aK
theorem yG {P:Pr} {hd:Bool} {iL:Except Str Rv} (h:cF P (n+1) hd f args=some (iL,aK)):y3 P n hd f args iL aK:=by
 have h:(match P.fns[f]? with
  |none=>none
  |some fn=>if args.length=fn.np then Fd fn.na args (c9 ⟨P.glob,cF P n,eW fn.na fn.rb args,hd⟩ fn.body (args++replicate (fn.nv-fn.np) .no)) else none)=some (iL,aK):=h
 cases hf:P.fns[f]? with
 |none=>have h:=hf▸h;exact ah h
 |some fn=>
  rw[hf]at h;have h:(if args.length=fn.np then Fd fn.na args (c9 ⟨P.glob,cF P n,eW fn.na fn.rb args,hd⟩ fn.body (args++replicate (fn.nv-fn.np) .no)) else none)=some (iL,aK):=h
  by_cases q:args.length=fn.np
  .rw[Y0 q]at h
   cases e:c9 ⟨P.glob,cF P n,eW fn.na fn.rb args,hd⟩ fn.body (args++replicate (fn.nv-fn.np) .no) with
   |none=>rw[e]at h;exact ah h
   |some p=>
    rw[e]at h;obtain⟨o,fr⟩:=p
    rcases o with x|(_|r)
    .have h:=Prod.mk.inj (aI h);exact⟨fn,fr,_,hf,q,e,h.1,h.2⟩
    .have h:=Prod.mk.inj (aI h);exact⟨fn,fr,_,hf,q,e,h.1,h.2⟩
    .have h:=Prod.mk.inj (aI h);exact⟨fn,fr,_,hf,q,e,h.1,h.2⟩
  .rw[Y1 q]at h;exact ah h
section
variable {A:Around} {J:Ins} {f m:Nat} {fn:Fn} {d:DefRec} {env:Env} {names:List Str} {sn:Str} {F:Addr->Prop} {own:Addr->Option Nat} {Z:Addr->Prop} {s s₁ s':Shared} {args:List Slot} {vs:List Value} {cT:Fm} {fa:Addr} {fP:Str} {pm code gk:Value} {o:Except Str dH}
theorem Ep (ok:C4 f d fn names sn) (hJ:J=none↔f<tb.m0):j7 J=fn.na:=by
 refine Er ok.na ?_
 rcases J with _|j
 .exact(Y0 (hJ.mp rfl)).symm
 .exact(Y1 λq=>ah (hJ.mpr q).symm).symm
theorem o9 (jn:j7 J=fn.na):(bp fn sn).length=(iR J).length:=by
 unfold bp
 rcases J with _|j
 .refine Er (Y0 (show fn.na=0 from jn.symm)) ?_;rfl
 .refine Er (Y1 (show ¬fn.na=0 from λq=>yO (jn.trans q))) ?_;rfl
noncomputable abbrev sk (J:Ins) (fn:Fn) (names:List Str) (sn:Str) (vs:List Value):List (Str×Value):=(bp fn sn++names.take (fn.np-fn.na)).zip (iR J++vs)
theorem oS (ok:C4 f d fn names sn) (tf:fn.na+vs.length=fn.np):(names.take (fn.np-fn.na)).length=vs.length:=by
 have MW:=ok.np;rw[<- tf]at MW ⊢;rw[Zm];exact Er length_take (min_eq_left (Nat.le_of_add_le_add_left MW))
theorem mT (ok:C4 f d fn names sn) (jn:j7 J=fn.na) (tf:fn.na+vs.length=fn.np):(sk J fn names sn vs).map (·.1)=bp fn sn++names.take (fn.np-fn.na):=
 List.map_fst_zip (by refine Er ZI (Er ZI (Er (o9 jn) (Er (oS ok tf) ?_)));exact Zi _)
theorem mL (q:d.scope.names.lookup x=some .cell):∃c,(cellsFrom n d.scope.names []).lookup x=some c:=by
 refine aX (lP d.scope.names n [] x (mem_of_lookup q)) λc hc=>?_
 exact aX (ig hc) λc' Q=>(⟨c',Q.1⟩)
theorem vt (ok:C4 f d fn names sn) (jn:j7 J=fn.na) (tf:fn.na+vs.length=fn.np) (x:Str×Value) (hx:x∈sk J fn names sn vs):d.scope.names.lookup x.1=some .local\/(d.scope.names.lookup x.1=some .cell/\((cellsFrom n d.scope.names []).lookup x.1).isSome=true):=by
 have hxn:x.1∈bp fn sn++names.take (fn.np-fn.na):=by exact Er (mT ok jn tf).symm (mem_map.mpr ⟨x,hx,rfl⟩)
 rcases mem_append.mp hxn with hxn|hxn
 .exact .inl (ok.skind _ hxn)
 rcases ok.kinds x.1 (List.mem_of_mem_take hxn) with q|q
 .exact .inl q
 .exact .inr ⟨q,isSome_iff_exists.mpr (mL q)⟩
theorem CC.of (ok:C4 f d fn names sn) (jn:j7 J=fn.na) (tf:fn.na+vs.length=fn.np) (G:Gh F own Z s.heap) (IJ:sA F own Z s.heap J) (SA:hO J own Z s.heap args vs) (hL:env.locals=s.heap.objs.size) (hK:∀x,env.kindOf x=d.scope.names.lookup x) (hC:env.cells=cellsFrom (s.heap.objs.size+1) d.scope.names [])
  (IC:InCallC s env.locals (bindL env.kindOf (sk J fn names sn vs) λaa=>none) env.cells (bindC env.kindOf (sk J fn names sn vs) λaa=>none) s₁):CC J fn d names sn env F own Z s s₁ args vs:=by
 have cx:∀x,env.kindOf x=some .cell-> ∃c,env.cells.lookup x=some c:=λx q=>by refine Er hC ?_;rw[hK]at q;exact mL q
 have kinds:∀x∈names,env.kindOf x=some .local\/env.kindOf x=some .cell:=λx hx=>by rw[hK];exact ok.kinds x hx
 have skind:∀x∈bp fn sn,env.kindOf x=some .local:=λx hx=>by rw[hK];exact ok.skind x hx
 have nb:((sk J fn names sn vs).map (·.1)).Nodup:=by
  exact Er (mT (J:=J) ok jn tf) (((List.perm_append_comm (l₁:=bp fn sn) (l₂:=names)).nodup_iff.mpr ok.nd).sublist (Sublist.append (Sublist.refl _) (List.take_sublist _ _)))
 refine⟨jn,ok.nd,kinds,skind,hK,λb o e=>by refine Er hL ?_;exact ZZ e,IC.toInCall.keep,IC.toInCall.same,⟨_,IC.toInCall.ns⟩,λx c hc=>⟨IC.above _ _ (mem_of_lookup hc),_,IC.cell _ _ hc⟩,λx z c h1 h2=>name_of_addr IC.apart (mem_of_lookup h1) (mem_of_lookup h2),cx,λk v hv=>?_,λx o dx hJ=>?_,G,IJ,SA⟩
 .have Oi:=(List.getElem?_eq_some_iff.mp hv).1
  have Iy:=(oS ok tf).symm▸Oi;have LA:=Ze Iy (List.length_take_le' _ _);have uF:(names++bp fn sn)[k]? = some names[k]:=by exact Er (ZM LA) (ZK LA)
  have hz:(sk J fn names sn vs)[(bp fn sn).length+k]? = some (names[k],v):=by
   refine List.getElem?_zip_eq_some.mpr ⟨?_,?_⟩
   .refine Er (ZL (Zl _ _)) ?_;rw[Zm];exact Er (ZK Iy) (Er List.getElem_take rfl)
   .refine Er (o9 jn) ?_;rw[ZL (Zl _ _),Zm];exact hv
  rcases kinds names[k] (getElem_mem LA) with q|q
  .exact⟨_,n6 uF q,_,IC.toInCall.ns,jJ _ _ _ _ v nb hz q⟩
  .refine aX (cx _ q) λc hc=>?_
   have:=IC.cell _ c hc;rw[mV _ _ _ _ v nb hz (by refine Er q ?_;intro z;cases z)]at this;exact⟨_,tz uF q hc,this⟩
 .have e:bp fn sn=[sn]:=kC (λq=>by rw[hJ]at jn;exact yO (jn.trans q))
  refine⟨_,IC.toInCall.ns,jJ _ _ 0 _ _ nb ?_ (skind sn (by refine Er e ?_;exact .head _))⟩;unfold sk;refine Er e (Er hJ ?_);rfl
theorem CC.fnok {c:cR} (C:CC J fn d names sn env F own Z s s₁ args vs) (en:aN A (lH d fn names sn) env (bO J fn env names sn F)) (hc:c.pin=eW fn.na fn.rb args) (hi:interactive env=false):cX A (lH d fn names sn) env (bO J fn env names sn F) c ((List.range (fn.na+(names++bp fn sn).length)).filter λi=>decide (i∉eW fn.na fn.rb args)) own:=by
 refine⟨en,λx i hx=>?_,λi hp uI=>mem_filter.mpr ⟨mem_range.mpr uI,Y5 (hc▸hp)⟩,hi,C.kd,rfl,λj z hz=>?_,λq=>?_⟩
 .have Q:=fg hx
  rcases C.kinds x (Zs Q.2) with q|q<;>(refine Er q ?_;intro z;cases z)
 .by_cases hJ:J=none
  .refine .inl ?_
   have h0:fn.na=0:=by have:=C.na;rw[hJ]at this;exact this.symm
   refine qI ?_;cases cm hz with
   |att q e=>have q:=h0▸q;cases q
   |loc _ hx=>
    have:=Zs hx;rw[show bp fn sn=[] from Y0 h0,ZO]at this;exact this
  .exact .inr λq=>hJ (C.no.mp q)
 .unfold bO;refine Er (C.no.mp q) ?_;rfl
theorem CC.old (C:CC J fn d names sn env F own Z s s₁ args vs) (b:Addr) (e:s₁.heap.get? b=none):s.heap.get? b=none:=by
 cases z:s.heap.get? b with
 |none=>rfl
 |some o=>rw[C.kp b o z]at e;exact ah e.symm
theorem BY {own:Addr->Option Nat} {b:Addr} (nw:¬y.wr own b):own b=none:=by
 cases q:own b with
 |none=>rfl
 |some z=>exact absurd (.inl (by refine Er q ?_;exact λz=>ah z.symm)) nw
noncomputable def KJ:Flow->Value
 |.ret v=>v
 |_=>.none
theorem CC.ret {fl:Flow} (C:CC J fn d names sn env F own Z s s₁ args vs) (Lc:fn.rb=kI f) (p:jk (bO J fn env names sn F) ((List.range m).filter λi=>decide (i∉eW fn.na fn.rb args)) s₁ own Z s₁ (o,cT) fl s'):
  d7 J (kI f) F own Z s args vs (sL o) (dW fn.na args cT) (.ok (.ret (KJ fl))) s':=by
 refine ag λG1 g1=>?_
 obtain⟨k,ae,Z',q,I',S',r⟩:=p;obtain⟨k1,k2,k3,k4,k5,k6⟩:=C.back I' S';refine g1 ?_;refine⟨ae,Z',k1,k2,Lc▸k3,k4,k5,k6,.inl ?_⟩;subst q;cases k with
 |next=>cases r;exact⟨_,_,rfl,rfl,.none⟩
 |ret rv=>
  obtain⟨v,rfl,r,dd,AZ⟩:=r;refine⟨_,v,rfl,rfl,?_⟩;cases rv with
  |fz d=>exact r
  |own d=>exact aX r λb r=>(⟨b,r.1,C.old b r.2.1,BY r.2.2.1,r.2.2.2.1,r.2.2.2.2.1,r.2.2.2.2.2⟩)
  |pl p=>exact ah AZ
theorem CC.exc {e:Value} (C:CC J fn d names sn env F own Z s s₁ args vs) (Lc:fn.rb=kI f) (en:aN A (lH d fn names sn) env (bO J fn env names sn F)) (p:aV (bO J fn env names sn F) ((List.range m).filter λi=>decide (i∉eW fn.na fn.rb args)) own Z s₁ (o,cT) e s'):
  wpAny (model prog w) A (leaving env e) (λaa dS=>d7 J (kI f) F own Z s args vs (sL o) (dW fn.na args cT) (.error e) dS) (λe' dS=>d7 J (kI f) F own Z s args vs (sL o) (dW fn.na args cT) (.error e') dS) s':=by
 refine ag λG1 g1=>?_
 obtain⟨nm,a,ae,Z',q,rfl,I',S',X⟩:=p;refine fM en.top λe0 dX Q=>?_
 obtain⟨l,cz,z⟩:=iG I' en.stk;rw[Q.1]at cz;obtain rfl:=aI cz;subst q;refine g1 ?_;unfold leaving;refine YY (mf Q.1 Q.2 z.1 en.frame X (λb e=>⟨S'.old b e,I'.fresh e⟩) λcy lv lw=>?_);refine ag λG2 g2=>?_
 obtain⟨k1,k2,k3,k4,k5,k6⟩:=C.back (s':= {s' with heap:=cy}) (I'.lv lv (λb p=>p.2) z.2) (S'.lv I' lv (λb p=>p) z.2);exact g2 ⟨ae,Z',k1,k2,Lc▸k3,k4,k5,k6,.inr ⟨_,a,rfl,rfl,lw.is.mono λb aa aA h=>⟨C.old b h.1,BY h.2.1,h.2.2.1,h.2.2.2⟩⟩⟩
end
theorem r9 {P:Pr} (gd:Gd P.glob) (Kj:∀(f:Nat) (fn:Fn) (d:DefRec),P.fns[f]? = some fn->tb.fn[f]? = some d-> ∃names sn,C4 f d fn names sn):
  ∀n,qE n (cF P n):=by
 intro n
 induction n with
 |zero=>intro hd f args iL aK h;exact ah h
 |succ n IH=>
  intro hd f args iL aK h d c5 J fa LI A F own Z s vs Ox O4 fL Cy G IJ SA;refine ag λG1 g1=>?_
  obtain⟨fn,cT,o,Oo,da,Ou,rfl,rfl⟩:=yG h;refine fM (Kj f fn d Oo c5) λnames sn ok=>?_
  obtain⟨OG,ob,fP,pm,code,gk,ho,E3,pR⟩:=LI;refine g1 ?_;have jn:=Ep ok OG;have tf:fn.na+vs.length=fn.np:=by exact Er da.symm (Er SA.1 (Er jn rfl))
  refine codeAny_call_cells (fd:=methDef d.name fP d.params d.body d.scope pm code gk) (body:=d.body) (by show A.depth<1000;omega) (G.base fa ob ho) E3 (gd.nl.keeps G.base) (pR.keeps G.base) rfl (ok.bind J vs jn tf fP pm code gk) rfl (vt ok jn tf) (λs₁ IC=>?_) ok.co ok.gen ok.kind;have C:=CC.of (env:=callEnvC (methDef d.name fP d.params d.body d.scope pm code gk) s.heap.objs.size fa) ok jn tf G IJ SA rfl (λaa=>rfl) rfl IC;have R':Rn (A.deeper (callEnvC (methDef d.name fP d.params d.body d.scope pm code gk) s.heap.objs.size fa)) ⟨P.glob,cF P n,eW fn.na fn.rb args,hd⟩ n:=⟨gd,IH,by show A.depth+1+2*n+1<=999;omega,by show A.units+3+8*n+4<=4000;omega,fL⟩
  have hi:interactive (callEnvC (methDef d.name fP d.params d.body d.scope pm code gk) s.heap.objs.size fa)=false:=by unfold interactive;show(d.scope.kind == .module&&_)=false;refine Er ok.kind ?_;rfl
  exact YW (DF (Z₀:=Z) (s₀:=s₁) ok.body _ _ _ _ R' (C.fnok (C.en Cy ok.kind rfl rfl rfl) rfl hi) own Z s₁ _ (o,cT) Ou (C.inv (fn.nv-fn.np)) .refl) (λfl s' p=>C.ret ok.rb p) λe s' p=>C.exc ok.rb (C.en Cy ok.kind rfl rfl rfl) p
end Mv
namespace Mv
open PySem PyProof.Rows
noncomputable def Ic (sc:Sc) (x:Str) :Bool:=decide (sc.names.lookup x = some .globalImplicit) && !(x == ("__debug__" :Str))
noncomputable def Ia (sc:Sc) (x:Str) (i:Nat) :Bool:=decide (sc.vars.lookup x = some i) && !(x == ("__debug__" :Str))
theorem AP (h:Ic sc x=true):sc.isG x:=by
 simp only[Ic,Z8,Y4,not_eq_true']at h;exact h
theorem AO (h:Ia sc x i=true):sc.isV x i:=by
 simp only[Ia,Z8,Y4,not_eq_true']at h;exact h
noncomputable def Fw:Const->D->Bool
 |.none,.none=>true
 |.bool a,.bool b=>a==b
 |.int a,.int b=>a==b
 |.str a,.str b=>decide (a=b)&&PyData.strOk a&&decide (a.cps.size<=Sz)
 |_,_=>false
theorem vf {k:Const} {d:D} (h:Fw k d=true):eB k d:=by
 cases k<;>first|exact noConfusion h|(cases d<;>first|exact noConfusion h|exact .none|(refine Er (eq_of_beq h) ?_;first|exact .bool _|exact .int _)|skip)
 exact Er (YZ (and_eq_true_iff.mp (and_eq_true_iff.mp h).1).1).symm (.str _ (and_eq_true_iff.mp (and_eq_true_iff.mp h).1).2 (YZ (and_eq_true_iff.mp h).2))
noncomputable def yM (x:Ex) (bv:List Nat):Bool:=(MD x).all λi=>!bv.contains i
theorem vw {x:Ex} {bv:List Nat} (h:yM x bv=true):Apart x bv:=λi hi hb=>by
 simp only[yM,ZQ]at h;have:=h i hi;simp[hb]at this
noncomputable def yz (scope:Scope) (sc:Sc) (vs:List Str):Bool:=
 decide (scope.kind = .function)&&(scope.names.all λx=>decide (x.2 = .local->scope.names.lookup x.1=some .local))&&(scope.names.all λx=>decide (x.2≠ .cell))&&(vs.all λv=>decide (scope.names.lookup v=some .local))&&decide vs.Nodup &&
 (scope.names.all fun x=>decide (x.2 = .free→scope.names.lookup x.1 = some .free∧(x.1 == ("__classdict__" :Str)) = false∧(sc.vars.lookup x.1).isSome = true∧(sc.names.lookup x.1 = some .cell∨sc.names.lookup x.1 = some .free))) &&
 decide (((scope.names.filter λx=>x.2 == .free).map (·.1)).Nodup)
theorem vi {vs:List Str} (h:yz scope sc vs=true):gN scope sc vs:=by
 simp only[yz,Z8,Y4,ZQ]at h;refine ag λG g=>?_
 obtain⟨⟨⟨⟨⟨⟨h1,h2⟩,h3⟩,h4⟩,OJ⟩,h5⟩,h6⟩:=h;refine g ?_;exact⟨h1,h2,h3,h4,OJ,λx hx hf=>let ⟨a,b,c,d⟩:=h5 x hx hf;⟨a,b,isSome_iff_exists.mp c,d⟩,h6⟩
structure Ck (p:Prop) where
 val:Bool
 ok:val=true->p
namespace Ck
variable {p q:Prop}
noncomputable def no:Ck p:=⟨false,λh=>nomatch h⟩
noncomputable def dec (p:Prop) [Decidable p]:Ck p:=⟨decide p,YZ⟩
noncomputable def ofB {b:Bool} (h:b=true->p):Ck p:=⟨b,h⟩
theorem yN {a:Bool} (h:(a&&b)=true):a=true/\b=true:=by cases a<;>cases b<;>first|exact⟨rfl,rfl⟩|cases h
noncomputable def and (a:Ck p) (b:Ck q):Ck (p/\q):=⟨a.val&&b.val,λh=>⟨a.ok (yN h).1,b.ok (yN h).2⟩⟩
noncomputable def map (a:Ck p) (f:p->q):Ck q:=⟨a.val,λh=>f (a.ok h)⟩
end Ck
noncomputable def y7 (sc:Sc) (x:Str) (i:Nat):Ck (sc.isV x i):=.ofB AO
noncomputable def qo (sc:Sc) (x:Str):Ck (sc.isG x):=.ofB AP
noncomputable def Ja (x:Ex) (bv:List Nat):Ck (Apart x bv):=.ofB vw
noncomputable def OS (x:Ex) (ay:List Ex) (l:List Nat):Ck (∀j∈l,j∉aS x/\j∉bf ay):=.dec _
structure OY (g:Expr) (t:Tgt) where
 vs:List Str
 i:Nat
 ck:Ck (CG i g vs t)
noncomputable def r8 (g:Expr) (t:Tgt):OY g t:=match t with
 |.one i=>(match g with
  |.Name v _=>⟨[v],i,⟨true,λaa=>.one⟩⟩
  |_=>⟨[],0,.no⟩)
 |_=>⟨[],0,.no⟩
section
variable {sc:Sc}
theorem HZ {a b:Expr} {op:Operator} {o:lE} {x y:Ex} (h:op=wx o/\CE sc a x/\CE sc b y/\Apart x (aS y)):CE sc (.BinOp a op b pos) (.op2 o x y):=by
 refine Er h.1 ?_;exact .op2 h.2.1 h.2.2.1 h.2.2.2
theorem H6 {a b:Expr} {op:CmpOp} {x y:Ex} (h:op=eM o/\CE sc a x/\CE sc b y/\Apart x (aS y)):CE sc (.Compare a [op] [b] pos) (.cmp o x y):=by
 refine Er h.1 ?_;exact .cmp h.2.1 h.2.2.1 h.2.2.2
theorem EG {a b:Expr} {op J4:CmpOp} {p:Cm} {x y:Ex} (h:(op=eM o/\J4=eM p)/\CE sc a x/\CE sc b y/\CE sc e z):CE sc (.Compare a [op,J4] [b,e] pos) (.cmp2 o p x y z):=by
 obtain⟨⟨rfl,rfl⟩,a,b,c⟩:=h;exact .cmp2 a b c
noncomputable def IS (f:Nat) (v:Str):Bool:=match tb.fn[f]? with
 |some d=>decide (d.name=v)
 |none=>false
theorem i5 {v:Str} (h:IS f v=true):∃d,tb.fn[f]? = some d/\d.name=v:=by
 unfold IS at h;cases q:tb.fn[f]? with
 |none=>have h:=q▸h;cases h
 |some d=>rw[q]at h;exact⟨d,rfl,YZ h⟩
theorem cv {v:Str} {p:Pos} {args:List Expr} (h:(∃d,tb.fn[f]? = some d/\d.name=v)/\sc.isG v/\lA sc args xs/\args.length<=29/\f<tb.m0):CE sc (.Call (.Name v p) args [] pos) (.call f xs):=by
 obtain⟨⟨d,hd,rfl⟩,a,b,c,e⟩:=h;exact .call ⟨hd,e⟩ a b c
theorem H7 {b:Bi} {v:Str} {p:Pos} {a:Expr} {x:Ex} (h:b.one=true/\v=dw b/\sc.isG v/\CE sc a x):CE sc (.Call (.Name v p) [a] [] pos) (.bi b [x]):=by
 obtain rfl:=h.2.1;exact .bi1 h.1 h.2.2.1 h.2.2.2
theorem H5 {t:Ty} {v u:Str} {p p' pos:Pos} {a:Expr} {x:Ex} (h:v = ("isinstance" :Str)∧u = (cE t:Str)∧sc.isG v∧sc.isG u∧CE sc a x) :CE sc (.Call (.Name v p) [a,.Name u p'] [] pos) (.bi (.isi t) [x]):=by
 obtain rfl:=h.1;obtain rfl:=h.2.1;exact .isi h.2.2.1 h.2.2.2.1 h.2.2.2.2
theorem H4 {v x cn:Str} {p p1 p2 pos:Pos} {i:Nat} {yes no:List Str} (h:v = ("isinstance" :Str)∧sc.isG v∧sc.isV x i∧sc.isG cn∧tb.sub.lookup cn = some (yes,no)) :CE sc (.Call (.Name v p) [.Name x p1,.Name cn p2] [] pos) (.isx i yes no):=by
 obtain rfl:=h.1;exact .isx h.2.1 h.2.2.1 h.2.2.2.1 h.2.2.2.2
noncomputable def HB:List Expr->Option (List Str)
 |[]=>some []
 |.Name x _::es=>(HB es).map (x :: ·)
 |_=>none
noncomputable def I8 (sc:Sc):(es:List Expr)->(xs:List Str)->Ck (NS sc es xs)
 |[],[]=>⟨true,λaa=>.nil⟩
 |.Name x _::es,x'::xs=>((Ck.dec (x=x')).and ((qo sc x).and (I8 sc es xs))).map λh=>h.1▸ .cons h.2.1 h.2.2
 |_,_=>.no
theorem EE {v x:Str} {cs:List Str} {es:List Expr} {p p1 p2 pos:Pos} {k i:Nat} {yes no:List Str} (h:v = ("isinstance" :Str)∧sc.isG v∧sc.isV x i∧NS sc es cs∧cs.length≤1000∧tb.sbt.lookup cs = some (yes,no)) :CE sc (.Call (.Name v p) [.Name x p1,.Tuple es k p2] [] pos) (.isx i yes no):=by
 obtain rfl:=h.1;exact .isxt h.2.1 h.2.2.1 h.2.2.2.1 h.2.2.2.2.1 h.2.2.2.2.2
theorem AK {m:Str} {cW pos:Pos} {a k:Expr} (h:m = ("count" :Str)∧fc a = true∧fc k = true∧(cW.endLine == pos.line) = true) :BX sc (.Call (.Attribute a m cW) [k] [] pos) .count [a,k]:=by
 refine Er h.1 ?_;exact .count h.2.1 h.2.2.1 h.2.2.2
theorem EF {v u:Str} {p p' pos gn:Pos} {a b:Expr} (h:(v = ("dict" :Str)∧u = ("zip" :Str))∧sc.isG v∧sc.isG u) :BX sc (.Call (.Name v p) [.Call (.Name u p') [a,b] [] gn] [] pos) .dzip [a,b]:=by
 obtain⟨⟨rfl,rfl⟩,a,b⟩:=h;exact .dzip a b
noncomputable def Bx (sc:Sc) (x a:Str) (i:Nat) :Ck (sc.isA x a i):=(Ck.dec (x = sc.sn∧sc.ats.lookup a = some i∧(x == ("__debug__" :Str)) = false)).map fun h=>⟨h.1,h.2.1,h.2.2⟩
noncomputable def Bw (sc:Sc) (o:Expr) (i:Nat):Ck (PE sc o i):=match o with
 |.Name x _=>(y7 sc x i).map .nm
 |.Attribute (.Name x _) a _=>(Bx sc x a i).map .atr
 |_=>.no
noncomputable def I9:(lB:List (Option Expr))->(ks:List Str)->Ck (KS lB ks)
 |[],[]=>⟨true,λaa=>.nil⟩
 |some (.Constant (.str k) _ _)::es,k'::ks=>((Ck.dec (k=k')).and (I9 es ks)).map λh=>h.1▸ .cons h.2
 |_,_=>.no
structure JR (es:List Expr) where
 a:List Expr
 e:Expr
 ok:es=a++[e]
noncomputable def Ca:(es:List Expr)->Option (JR es)
 |[]=>none
 |[e]=>some ⟨[],e,rfl⟩
 |e::f::es=>(Ca (f::es)).map λr=>⟨e::r.a,r.e,Y7 (e :: ·) r.ok⟩
noncomputable def ME:Ex->Bool
 |.pl _=>false
 |_=>true
theorem HY {m:Str} {o:Expr} {ap pos:Pos} {i:Nat} (h:(m = ("pop" :Str)∧(ap.endLine == pos.line) = true)∧PE sc o i) :CE sc (.Call (.Attribute o m ap) [] [] pos) (.pop (.var i)):=by
 obtain⟨⟨rfl,a⟩,b⟩:=h;exact .pop b a
theorem AJ {f:Nat} {v x:Str} {as:List Nat} {p ap pos:Pos} {args:List Expr} {xs:List Ex} (h:(∃d,tb.fn[f]? = some d∧d.name = v)∧(as = sc.as∧tb.m0 < f∧tb.rb[f - tb.m0]? = some []∧x = sc.sn∧(x == ("__debug__" :Str)) = false∧sc.ats.isEmpty = false∧(ap.endLine == pos.line) = true∧args.length≤28)∧lA sc args xs) :CE sc (.Call (.Attribute (.Name x p) v ap) args [] pos) (.mcall f as xs):=by
 obtain⟨⟨d,hd,rfl⟩,⟨rfl,h1,h2,h3,h4,h5,h6,h7⟩,h8⟩:=h;exact .mcall ⟨hd,h1,h2⟩ ⟨h3,h4,λq=>by rw[q]at h5;exact noConfusion h5⟩ h6 h8 h7
theorem AL {v:Str} {p:Pos} {args:List Expr} (q:es=args++[e]) (h:(∃d,tb.fn[f]? = some d/\d.name=v)/\(f<tb.m0/\args.length<=28/\xs.all ME=true)/\sc.isG v/\lA sc args xs/\CE sc e z):CE sc (.Call (.Name v p) es [] pos) (.callw f xs z):=by
 obtain⟨⟨d,hd,rfl⟩,⟨h1,h2,h3⟩,h4,h5,h6⟩:=h;rw[q];refine .callw ⟨hd,h1⟩ h4 h5 h6 ⟨h2,λx hx p hp=>?_⟩;have:=all_eq_true.mp h3 x hx;rw[hp]at this;exact noConfusion this
structure OX (sc:Sc) (e:Expr) (b:Bi) where
 es:List Expr
 ck:Ck (BX sc e b es)
noncomputable def By (sc:Sc) (e:Expr) (b:Bi):OX sc e b:=match b with
 |.count=>(match e with
  | .Call (.Attribute a m cW) [k] [] pos=>⟨[a,k],(Ck.dec (m = ("count" :Str)∧fc a = true∧fc k = true∧(cW.endLine == pos.line) = true)).map AK⟩
  |_=>⟨[],.no⟩)
 |.dzip=>(match e with
  | .Call (.Name v _) [.Call (.Name u _) [a,b] [] _] [] _=>⟨[a,b],((Ck.dec (v = ("dict" :Str)∧u = ("zip" :Str))).and ((qo sc v).and (qo sc u))).map EF⟩
  |_=>⟨[],.no⟩)
 |.dict0=>(match e with
  |.Dict [] [] _=>⟨[],⟨true,λaa=>.dict0⟩⟩
  |_=>⟨[],.no⟩)
 |_=>⟨[],.no⟩
noncomputable def Ck.or {p:Prop} (a b:Ck p):Ck p:=⟨a.val||b.val,λh=>(or_eq_true_iff.mp h).elim a.ok b.ok⟩
theorem HX {v:Str} {p pos:Pos} {e:Expr} {x:Ex} (h:v = ("reversed" :Str)∧sc.isG v∧CE sc e x) :IT sc (.Call (.Name v p) [e] [] pos) .rev [x]:=by
 obtain rfl:=h.1;exact .rev h.2.1 h.2.2
theorem AH {v:Str} {p pos:Pos} {e:Expr} {x:Ex} (h:v = ("range" :Str)∧sc.isG v∧CE sc e x) :IT sc (.Call (.Name v p) [e] [] pos) .range [x]:=by
 obtain rfl:=h.1;exact .range h.2.1 h.2.2
end
mutual
noncomputable def cQ:Nat->(sc:Sc)->(x:Ex)->(e:Expr)->Ck (CE sc e x)
 |0,_,_,_=>.no
 |n+1,sc,x,e=>match x with
  |.lit d=>(match e with
   |.Constant k _ _=>.ofB λh=>.lit (vf (k:=k) (d:=d) h)
   |_=>.no)
  |.var i=>(match e with
   |.Name v _=>(y7 sc v i).map .var
   |.Attribute (.Name x _) a _=>(Bx sc x a i).map .avar
   |_=>.no)
  |.pl (.var i)=>(match e with
   |.Name v _=>(y7 sc v i).map .pl
   |.Attribute (.Name x _) a _=>(Bx sc x a i).map .apl
   |_=>.no)
  |.pop (.var i)=>(match e with
   | .Call (.Attribute o m ap) [] [] pos=>((Ck.dec (m = ("pop" :Str)∧(ap.endLine == pos.line) = true)).and (Bw sc o i)).map HY
   |_=>.no)
  |.mcall f as xs=>(match e with
   | .Call (.Attribute (.Name x _) v ap) es [] pos=>((Ck.ofB i5).and ((Ck.dec (as = sc.as∧tb.m0 < f∧tb.rb[f - tb.m0]? = some []∧x = sc.sn∧(x == ("__debug__" :Str)) = false∧sc.ats.isEmpty = false∧(ap.endLine == pos.line) = true∧es.length≤28)).and (e6 n sc xs es))).map AJ
   |_=>.no)
  |.callw f xs z=>(match e with
   |.Call (.Name v _) es [] _=>(match Ca es with
    |some r=>((Ck.ofB i5).and ((Ck.dec (f<tb.m0/\r.a.length<=28/\xs.all ME=true)).and ((qo sc v).and ((e6 n sc xs r.a).and (cQ n sc z r.e))))).map (AL r.ok)
    |none=>.no)
   |_=>.no)
  |.dsel ks xs i=>(match e with
   |.Subscript (.Dict lB dI _) (.Name x _) _=>((I9 lB ks).and ((e6 n sc xs dI).and ((y7 sc x i).and (.dec (ks.Nodup/\ks.length=xs.length/\ks≠ []/\ks.length<=15))))).map λh=>.dsel h.1 h.2.1 h.2.2.1 h.2.2.2.1 h.2.2.2.2.1 h.2.2.2.2.2
   |_=>.no)
  |.gl k=>(match e with
   |.Name v _=>((qo sc v).and (.dec (tb.gl[k]? = some v))).map λh=>.gl h.1 h.2
   |_=>.no)
  |.tup xs=>(match e with
   |.Tuple es _ _=>((e6 n sc xs es).and (.dec (xs.length<=1000))).map λh=>.tup h.1 h.2
   |_=>.no)
  |.list xs=>(match e with
   |.List es _=>((e6 n sc xs es).and (.dec (xs.length<=1000))).map λh=>.list h.1 h.2
   |_=>.no)
  |.op2 o a b=>(match e with
   |.BinOp ea op eb _=>((Ck.dec (op=wx o)).and ((cQ n sc a ea).and ((cQ n sc b eb).and (Ja a (aS b))))).map HZ
   |_=>.no)
  |.neg a=>(match e with
   |.UnaryOp .USub ea _=>(cQ n sc a ea).map .neg
   |_=>.no)
  |.not a=>(match e with
   |.UnaryOp .Not ea _=>(cQ n sc a ea).map .not
   |_=>.no)
  |.cmp o a b=>(match e with
   |.Compare ea [op] [eb] _=>((Ck.dec (op=eM o)).and ((cQ n sc a ea).and ((cQ n sc b eb).and (Ja a (aS b))))).map H6
   |_=>.no)
  |.cmp2 o p a b u=>(match e with
   |.Compare ea [op,J4] [eb,eu] _=>((Ck.dec (op=eM o/\J4=eM p)).and ((cQ n sc a ea).and ((cQ n sc b eb).and (cQ n sc u eu)))).map EG
   |_=>.no)
  |.and xs=>(match e with
   |.BoolOp .And es _=>(e6 n sc xs es).map .and
   |_=>.no)
  |.or xs=>(match e with
   |.BoolOp .Or es _=>(e6 n sc xs es).map .or
   |_=>.no)
  |.ite t a b=>(match e with
   |.IfExp et ea eb _=>((cQ n sc t et).and ((cQ n sc a ea).and (cQ n sc b eb))).map λh=>.ite h.1 h.2.1 h.2.2
   |_=>.no)
  |.idx a i=>(match e with
   |.Subscript ea ei _=>((cQ n sc a ea).and ((cQ n sc i ei).and (Ja a (aS i)))).map λh=>.idx h.1 h.2.1 h.2.2
   |_=>.no)
  |.slc a l h=>(match e with
   |.Subscript ea (.Slice lo hi none _) _=>((cQ n sc a ea).and ((Jb n sc l lo).and ((Jb n sc h hi).and (Ja a (aS l++aS h))))).map λh=>.slc h.1 h.2.1 h.2.2.1 h.2.2.2
   |_=>.no)
  |.call f xs=>(match e with
   |.Call (.Name v _) es [] _=>((Ck.ofB i5).and ((qo sc v).and ((e6 n sc xs es).and (.dec (es.length<=29/\f<tb.m0))))).map cv
   |_=>.no)
  |.bi b [a]=>(match e with
   |.Call (.Name v _) [ea] [] _=>((Ck.dec (b.one=true)).and ((Ck.dec (v=dw b)).and ((qo sc v).and (cQ n sc a ea)))).map H7
   |.Call (.Name v _) [ea,.Name u _] [] _=>(match b with
    | .isi t=>((Ck.dec (v = ("isinstance" :Str))).and ((Ck.dec (u = (cE t:Str))).and ((qo sc v).and ((qo sc u).and (cQ n sc a ea))))).map H5
    |_=>.no)
   |_=>.no:Ck (CE sc e (.bi b [a]))).or (((By sc e b).ck.and (e6 n sc [a] (By sc e b).es)).map λh=>.bx h.1 h.2)
  |.bi b xs=>((By sc e b).ck.and (e6 n sc xs (By sc e b).es)).map λh=>.bx h.1 h.2
  |.comp cq t it b8 ay=>(match e with
   |.ListComp ee [⟨g,iter,eO,0⟩] scope _=>((r8 g t).ck.and ((Jc n sc it b8 iter).and ((Ck.ofB (vi (scope:=scope) (sc:=sc) (vs:=(r8 g t).vs))).and ((Ck.dec (sc.hi<=(r8 g t).i)).and ((cQ n (bJ scope sc (r8 g t).vs (r8 g t).i) cq ee).and ((e6 n (bJ scope sc (r8 g t).vs (r8 g t).i) ay eO).and (OS cq ay (aW t)))))))).map λ⟨h0,h1,h2,h3,h4,h5,h6⟩=>.comp h0 h1 h2 h3 h4 h5 h6
   |_=>.no)
  |.isx i yes no=>(match e with
   | .Call (.Name v _) [.Name x _,.Name cn _] [] _=>((Ck.dec (v = ("isinstance" :Str))).and ((qo sc v).and ((y7 sc x i).and ((qo sc cn).and (.dec (tb.sub.lookup cn = some (yes,no))))))).map H4
   |.Call (.Name v _) [.Name x _,.Tuple es _ _] [] _=>(match HB es with
    |none=>.no
    | some cs=>((Ck.dec (v = ("isinstance" :Str))).and ((qo sc v).and ((y7 sc x i).and ((I8 sc es cs).and (.dec (cs.length≤1000∧tb.sbt.lookup cs = some (yes,no))))))).map EE)
   |_=>.no)
noncomputable def e6:Nat->(sc:Sc)->(xs:List Ex)->(es:List Expr)->Ck (lA sc es xs)
 |0,_,_,_=>.no
 |n+1,sc,xs,es=>match xs with
  |[]=>(match es with
   |[]=>⟨true,λaa=>.nil⟩
   |_::_=>.no)
  |x::xs=>(match es with
   |[]=>.no
   |e::es=>((cQ n sc x e).and ((e6 n sc xs es).and (Ja x (bf xs)))).map λh=>.cons h.1 h.2.1 h.2.2)
noncomputable def Jb:Nat->(sc:Sc)->(x:Ex)->(o:Option Expr)->Ck (Ms sc o x)
 |0,_,_,_=>.no
 |n+1,sc,x,o=>match o with
  |some e=>(cQ n sc x e).map .osome
  |none=>(match x with
   |.lit .none=>⟨true,λaa=>.onone⟩
   |_=>.no)
noncomputable def Jc:Nat->(sc:Sc)->(it:iN)->(b8:List Ex)->(e:Expr)->Ck (IT sc e it b8)
 |0,_,_,_,_=>.no
 |n+1,sc,it,b8,e=>match b8 with
  |[x]=>(match it with
   |.seq=>(cQ n sc x e).map .seq
   |.range=>(match e with
    | .Call (.Name v _) [e] [] _=>((Ck.dec (v = ("range" :Str))).and ((qo sc v).and (cQ n sc x e))).map AH
    |_=>.no)
   |.rev=>(match e with
    | .Call (.Name v _) [e] [] _=>((Ck.dec (v = ("reversed" :Str))).and ((qo sc v).and (cQ n sc x e))).map HX
    |_=>.no))
  |_=>.no
end
noncomputable def FC (sc:Sc):(es:List Expr)->(is:List Nat)->Ck (TGs sc es is)
 |[],[]=>⟨true,λaa=>.nil⟩
 |.Name x _::es,i::is=>((y7 sc x i).and (FC sc es is)).map λh=>.cons h.1 h.2
 |_,_=>.no
noncomputable def OR (sc:Sc) (g:Expr) (t:Tgt):Ck (TG sc g t):=match t with
 |.one i=>(match g with
  |.Name x _=>(y7 sc x i).map .one
  |_=>.no)
 |.tup is=>(match g with
  |.Tuple es _ _=>(FC sc es is).map .tup
  |_=>.no)
theorem AI {k k' HQ:Str} {np gu ap:Pos} (h:(k'=k/\k'∈tb.cl)/\sc.isG k'):CS sc (.Raise (some (.Call (.Name k' np) [.Constant (.str HQ) kk ap] [] gu)) none pos) (.raise k):=by
 obtain⟨⟨rfl,a⟩,b⟩:=h;exact .raise b a
theorem zA {cn:Str} (h:((tb.sub.lookup cn).map (·.1)==some yes)=true):∃no,tb.sub.lookup cn=some (yes,no):=by
 cases q:tb.sub.lookup cn with
 |none=>have h:=q▸h;cases h
 |some p=>rw[q]at h;simp at h;subst h;exact⟨p.2,rfl⟩
theorem H8 {sc:Sc} {m:Str} {o:Expr} {cW pos p':Pos} {v:Expr} {i:Nat} {e:Ex} (h:(m = ("append" :Str)∧(cW.endLine == pos.line) = true)∧PE sc o i∧CE sc v e) :CS sc (.Expr (.Call (.Attribute o m cW) [v] [] pos) p') (.app (.var i) e):=by
 obtain⟨⟨rfl,a⟩,b,c⟩:=h;exact .app b c a
theorem ED {sc:Sc} {m:Str} {o:Expr} {cW pos p':Pos} {i:Nat} (h:(m = ("reverse" :Str)∧(cW.endLine == pos.line) = true)∧PE sc o i) :CS sc (.Expr (.Call (.Attribute o m cW) [] [] pos) p') (.rev (.var i)):=by
 obtain⟨⟨rfl,a⟩,b⟩:=h;exact .rev b a
theorem H3 {sc:Sc} {f:Nat} {v x:Str} {as rb:List Nat} {p ap pos p':Pos} {args:List Expr} {xs:List Ex} (h:(∃d,tb.fn[f]? = some d∧d.name = v)∧(as = sc.as∧rb = sM (kI f) sc.as∧tb.m0≤f∧x = sc.sn∧(x == ("__debug__" :Str)) = false∧sc.ats.isEmpty = false∧(ap.endLine == pos.line) = true∧args.length≤28)∧lA sc args xs) :CS sc (.Expr (.Call (.Attribute (.Name x p) v ap) args [] pos) p') (.mst f as rb xs):=by
 obtain⟨⟨d,hd,rfl⟩,⟨rfl,rfl,h1,h3,h4,h5,h6,h7⟩,h8⟩:=h;exact .mst ⟨hd,h1⟩ ⟨h3,h4,λq=>by rw[q]at h5;exact noConfusion h5⟩ h6 h8 h7
noncomputable def I7 (v:Str):Bool:=match tb.cr with
 |some c=>decide (c.name=v)
 |none=>false
theorem Bs {v:Str} (h:I7 v=true):∃c,tb.cr=some c/\c.name=v:=by
 unfold I7 at h;cases q:tb.cr with
 |none=>have h:=q▸h;cases h
 |some d=>rw[q]at h;exact⟨d,rfl,YZ h⟩
theorem H0 {sc:Sc} {f:Nat} {as:List Nat} {v x:Str} {p np gu pos:Pos} {args:List Expr} {xs:List Ex} {rest:List Stmt} {body:List St} (h:((∃c,tb.cr = some c∧c.name = v)∧ ∃d,tb.fn[tb.m0]? = some d∧d.name = ("__init__" :Str))∧(f = tb.m0∧as = b4 sc∧sc.ats.isEmpty = true∧sc.names.lookup x = some .local∧sc.vars.lookup x = none∧(x == ("__debug__" :Str)) = false∧args.isEmpty = false)∧sc.isG v∧lA sc args xs∧JW (gj sc x) rest body) :
  JW sc (.Assign [.Name x p] (.Call (.Name v np) args [] gu) pos::rest) [.new f as xs body]:=by
 obtain⟨⟨⟨c,h1,rfl⟩,h2⟩,⟨rfl,rfl,h3,h4,h5,h6,h7⟩,h8,h9,OK⟩:=h;exact .new h1 h8 ⟨List.isEmpty_iff.mp h3,h4,h5,h6⟩ h9 ⟨λq=>by rw[q]at h7;exact noConfusion h7,h2⟩ OK
mutual
noncomputable def LX:Nat->(sc:Sc)->(z:St)->(s:Stmt)->Ck (CS sc s z)
 |0,_,_,_=>.no
 |n+1,sc,z,s=>match z with
  |.asg (.one i) e=>(match s with
   |.Assign [.Name x _] value _=>((y7 sc x i).and (cQ n sc e value)).map λh=>.asg h.1 h.2
   |.Assign [.Attribute (.Name x _) a _] value _=>((Bx sc x a i).and ((cQ n sc e value).and (.dec (dK value=true)))).map λh=>.asgA h.1 h.2.1 h.2.2
   |_=>.no)
  |.asg (.tup is) e=>(match s with
   |.Assign [.Tuple es k0 tp] value pos0=>((FC sc es is).and ((cQ n sc e value).and (.dec (dK value=true/\pv value=true)))).map λh=>.asgT h.1 h.2.1 h.2.2.1 h.2.2.2
   |_=>.no)
  |.no=>⟨true,λaa=>.no⟩
  |.setI (.var i) k e=>(match s with
   |.Assign [.Subscript o idx _] value _=>((Bw sc o i).and ((cQ n sc e value).and (cQ n sc k idx))).map λh=>.setI h.1 h.2.1 h.2.2
   |_=>.no)
  |.app (.var i) e=>(match s with
   | .Expr (.Call (.Attribute o m cW) [v] [] pos) _=>((Ck.dec (m = ("append" :Str)∧(cW.endLine == pos.line) = true)).and ((Bw sc o i).and (cQ n sc e v))).map H8
   |_=>.no)
  |.rev (.var i)=>(match s with
   | .Expr (.Call (.Attribute o m cW) [] [] pos) _=>((Ck.dec (m = ("reverse" :Str)∧(cW.endLine == pos.line) = true)).and (Bw sc o i)).map ED
   |_=>.no)
  |.mst f as rb xs=>(match s with
   | .Expr (.Call (.Attribute (.Name x _) v ap) es [] pos) _=>((Ck.ofB i5).and ((Ck.dec (as = sc.as∧rb = sM (kI f) sc.as∧tb.m0≤f∧x = sc.sn∧(x == ("__debug__" :Str)) = false∧sc.ats.isEmpty = false∧(ap.endLine == pos.line) = true∧es.length≤28)).and (e6 n sc xs es))).map H3
   |_=>.no)
  |.exp e=>(match s with
   |.Expr v _=>((cQ n sc e v).and (.dec (dK v=true))).map λh=>.exp h.1 h.2
   |_=>.no)
  |.new _ _ _ _=>.no
  |.iff t a b=>(match s with
   |.If et sa sb _=>((cQ n sc t et).and ((ip n sc a sa).and (ip n sc b sb))).map λh=>.iff h.1 h.2.1 h.2.2
   |_=>.no)
  |.ret e=>(match s with
   |.Return (some v) _=>(cQ n sc e v).map .ret
   |.Return none _=>(match e with
    |.lit .none=>⟨true,λaa=>.retN⟩
    |_=>.no)
   |_=>.no)
  |.for_ t it b8 body cD=>(match s with
   |.For g iter sb [] _=>((OR sc g t).and ((Jc n sc it b8 iter).and (ip n sc body sb))).map λh=>.for1 h.1 h.2.1 h.2.2
   |_=>.no)
  |.whl t body cD=>(match s with
   |.While et sb [] _=>((cQ n sc t et).and (ip n sc body sb)).map λh=>.whl h.1 h.2
   |_=>.no)
  |.raise k=>(match s with
   |.Raise (some (.Call (.Name k' _) [.Constant (.str _) _ _] [] _)) none _=>((Ck.dec (k'=k/\k'∈tb.cl)).and (qo sc k')).map AI
   |_=>.no)
  |.try_ xb yes i xh=>(match s with
   |.Try body [.ExceptHandler (some (.Name cn _)) (some x) (h0::hs) _] [] [] _=>((y7 sc x i).and ((Ck.dec (sc.names.lookup x=some .local)).and ((qo sc cn).and ((Ck.ofB (zA (cn:=cn) (yes:=yes))).and ((ip n sc xb body).and (ip n sc xh (h0::hs))))))).map λ⟨h1,h2,h3,⟨_,h4⟩,h5,h6⟩=>.try1 h1 h2 h3 h4 h5 h6
   |_=>.no)
noncomputable def ip:Nat->(sc:Sc)->(zs:List St)->(ss:List Stmt)->Ck (JW sc ss zs)
 |0,_,_,_=>.no
 |n+1,sc,zs,ss=>match zs with
  |[]=>(match ss with
   |[]=>⟨true,λaa=>.nil⟩
   |_::_=>.no)
  |[.new f as xs body]=>(match ss with
   | .Assign [.Name x _] (.Call (.Name v _) args [] _) _ :: rest=>(((Ck.ofB Bs).and (Ck.ofB i5)).and ((Ck.dec (f = tb.m0∧as = b4 sc∧sc.ats.isEmpty = true∧sc.names.lookup x = some .local∧sc.vars.lookup x = none∧(x == ("__debug__" :Str)) = false∧args.isEmpty = false)).and ((qo sc v).and ((e6 n sc xs args).and (ip n (gj sc x) body rest))))).map H0
   |_=>.no)
  |z::zs=>(match ss with
   |[]=>.no
   |s::ss=>((LX n sc z s).and (ip n sc zs ss)).map λh=>.cons h.1 h.2)
end
end Mv
end
section
set_option backward.match.sparseCases false
namespace Mv
open PySem PyProof.Rows
noncomputable abbrev DG:Str:="self"
noncomputable def CK (fn:Fn) (ns:List Str):List Str:=bp fn DG++ns.take (fn.np-fn.na)
noncomputable def bL:List DefRec->List Fn->List (List Str)->List ((Nat->Value)->Str->Value->Value->Value->Sem (List (Str×Value)))
 |d::ds,fn::fns,ns::nss=>(λg fP pm code gk=>bindArgs (methDef d.name fP d.params d.body d.scope pm code gk) ⟨(List.range (CK fn ns).length).map g,[]⟩)::bL ds fns nss
 |_,_,_=>[]
noncomputable def bR:List DefRec->List Fn->List (List Str)->List ((Nat->Value)->Str->Value->Value->Value->Sem (List (Str×Value)))
 |_::ds,fn::fns,ns::nss=>(λg aa aA bF gy=>pure ((CK fn ns).zip ((List.range (CK fn ns).length).map g)))::bR ds fns nss
 |_,_,_=>[]
theorem map_range (vs:List Value):(List.range vs.length).map (λi=>(vs[i]?).getD .none)=vs:=by
 induction vs with
 |nil=>rfl
 |cons v vs ih=>exact Er List.range_succ_eq_map (Er Zz (Er map_map (Y7 (v :: ·) ih)))
end Mv
end
section
namespace Mv
open PySem PySem.W PyProof.Rows
noncomputable def Fc (f:Nat) (d:DefRec) (fn:Fn) (names:List Str):Bool:=
 decide ((names++bp fn DG).Nodup/\fn.np<=fn.na+names.length/\fn.na<=fn.np/\(fn.na=if f<tb.m0 then 0 else tb.an.length)/\fn.rb=kI f/\(∀x∈names,d.scope.names.lookup x=some .local\/d.scope.names.lookup x=some .cell)/\ ∀x∈bp fn DG,d.scope.names.lookup x=some .local)&&(ip 300 (lH d fn names DG) fn.body d.body).val &&
 decide (d.scope.isCoroutine=false/\d.scope.isGenerator=false/\d.scope.kind = .function/\ ∀x∈d.scope.names,x.2≠ .free)
theorem A7 {fn:Fn} {names:List Str} (h:Fc f d fn names=true) (hb:∀g fP pm code gk,bindArgs (methDef d.name fP d.params d.body d.scope pm code gk) ⟨(List.range (CK fn names).length).map g,[]⟩=pure ((CK fn names).zip ((List.range (CK fn names).length).map g))):C4 f d fn names DG:=by
 refine ag λG g1=>?_
 obtain⟨h,h3⟩:=and_eq_true_iff.mp h;refine ag λG1 g2=>?_
 obtain⟨h1,h2⟩:=and_eq_true_iff.mp h;have Q:=YZ h1;have Z:=YZ h3;refine g2 ?_;refine g1 ?_;refine⟨Q.1,Q.2.1,Q.2.2.1,Q.2.2.2.1,Q.2.2.2.2.1,Q.2.2.2.2.2.1,Q.2.2.2.2.2.2,λJ vs hJ hv fP pm code gk=>?_,(ip 300 _ _ _).ok h2,Z.1,Z.2.1,Z.2.2.1,Z.2.2.2⟩;have e:(iR J++vs).length=(CK fn names).length:=by
  unfold CK bp;refine Er ZI (Er ZI (Er length_take ?_))
  rcases J with _|j
  .refine Er (Y0 (show fn.na=0 from hJ.symm)) ?_;show 0+vs.length=0+_;exact(Zk (Ln [vs.length,min (fn.np-fn.na) names.length,fn.4,fn.1,fn.np-fn.na] (.w (.a (.c 0) .x) (.a (.c 0) .y)) [Ge (.a .z .x) .u,Gf .y (.v 4),Gf (.a (.v 4) .z) .u] rfl hv (min_eq_left (a:=fn.np-fn.na) (b:=names.length) (Ln [fn.np-fn.na,names.length,fn.1,fn.4] (.w .x .y) [Gl .z (.a .u .y),Ge (.a .x .u) .z] rfl Q.2.1 (Zd (n:=fn.np) (m:=fn.na) Q.2.2.1))) (Zd (n:=fn.np) (m:=fn.na) Q.2.2.1)) (Ln [min (fn.np-fn.na) names.length,vs.length,fn.4,fn.1,fn.np-fn.na] (.w (.a (.c 0) .x) (.a (.c 0) .y)) [Gf (.a .z .y) .u,Ge .x (.v 4),Ge (.a (.v 4) .z) .u] rfl hv (min_eq_left (a:=fn.np-fn.na) (b:=names.length) (Ln [fn.np-fn.na,names.length,fn.1,fn.4] (.w .x .y) [Gl .z (.a .u .y),Ge (.a .x .u) .z] rfl Q.2.1 (Zd (n:=fn.np) (m:=fn.na) Q.2.2.1))) (Zd (n:=fn.np) (m:=fn.na) Q.2.2.1)))
  .refine Er (Y1 (show ¬fn.na=0 from λq=>absurd (show 5=0 from hJ.trans q) (by decide))) ?_;show 1+vs.length=1+_;exact(Zk (Ln [vs.length,min (fn.np-fn.na) names.length,fn.4,fn.1,fn.np-fn.na] (.w (.a (.c 1) .x) (.a (.c 1) .y)) [Ge (.a .z .x) .u,Gf .y (.v 4),Gf (.a (.v 4) .z) .u] rfl hv (min_eq_left (a:=fn.np-fn.na) (b:=names.length) (Ln [fn.np-fn.na,names.length,fn.1,fn.4] (.w .x .y) [Gl .z (.a .u .y),Ge (.a .x .u) .z] rfl Q.2.1 (Zd (n:=fn.np) (m:=fn.na) Q.2.2.1))) (Zd (n:=fn.np) (m:=fn.na) Q.2.2.1)) (Ln [min (fn.np-fn.na) names.length,vs.length,fn.4,fn.1,fn.np-fn.na] (.w (.a (.c 1) .x) (.a (.c 1) .y)) [Gf (.a .z .y) .u,Ge .x (.v 4),Ge (.a (.v 4) .z) .u] rfl hv (min_eq_left (a:=fn.np-fn.na) (b:=names.length) (Ln [fn.np-fn.na,names.length,fn.1,fn.4] (.w .x .y) [Gl .z (.a .u .y),Ge (.a .x .u) .z] rfl Q.2.1 (Zd (n:=fn.np) (m:=fn.na) Q.2.2.1))) (Zd (n:=fn.np) (m:=fn.na) Q.2.2.1)))
 have q:=hb (λi=>((iR J++vs)[i]?).getD .none) fP pm code gk;rw[<- e,map_range]at q;exact q
noncomputable def xO:Nat->List DefRec->List Fn->List (List Str)->Bool
 |f,d::ds,fn::fns,ns::nss=>Fc f d fn ns&&xO (f+1) ds fns nss
 |_,_,[],_=>true
 |_,_,_,_=>false
theorem A8:∀ {k:Nat} {ds:List DefRec} {fns:List Fn} {nss:List (List Str)},xO k ds fns nss=true->bL ds fns nss=bR ds fns nss-> ∀(f:Nat) (fn:Fn) (d:DefRec),fns[f]? = some fn->ds[f]? = some d-> ∃names,C4 (k+f) d fn names DG:=by
 intro k ds fns
 induction fns generalizing ds k with
 |nil=>intro nss _ _ f fn d h1;exact ah h1
 |cons fn fns ih=>
  intro nss h e f ON d h1 h2;cases ds with
  |nil=>exact ah h2
  |cons d' ds=>
   cases nss with
   |nil=>exact noConfusion h
   |cons ns nss=>
    have h:=and_eq_true_iff.mp (show(Fc k d' fn ns&&xO (k+1) ds fns nss)=true from h);cases f with
    |zero=>
     exact Er (aI h1).symm (Er (aI h2).symm (⟨ns,A7 h.1 λg fP pm code gk=>congrFun (congrFun (congrFun (congrFun (congrFun (List.cons.inj e).1 g) fP) pm) code) gk⟩))
    |succ f=>
     have q:=ih h.2 (List.cons.inj e).2 f ON d h1 h2;rw[Nat.add_right_comm]at q;exact q
noncomputable def tw (p:Program) (loose:List Str):Bool:=
 jg.all λx=>!startupNames.contains x && !loose.contains x && !((recsOf p).map (·.name)).contains x && !((litsOf p).map (·.1)).contains x && !((clssOf p loose).map (·.name)).contains x
theorem nQ {name:Str} (h:(fastLookup "object" name).isSome = true) :∃y,typeLookup (.type "object") name = pure y:=by
 rw [typeLookup_type]; refine Er builtinLookup_eq_fast ?_;cases q:fastLookup "object" name with
 |none=>have h:=q▸h;cases h
 |some r=>exact⟨r,rfl⟩
noncomputable def LV (loose:List Str):Bool:=
 (tb.cr.elim false fun c=>tb.an.all fun a=>c.statics.contains a) && (tb.an.all fun a=>match fastLookup "object" a with | some none=>true | _=>false) &&
 ((tb.fn.drop 36).all fun d=>(fastLookup "object" d.name).isSome && !tb.an.contains d.name) && decide ((recsOf Hq.view).length = 36)
variable [hp:Hp]
section
variable {loose:List Str} {pC:ExcName->Option Value}
theorem Gd.of_top {glob:List D} (T:Top Hq.view loose pC mg mb B) (TE:TopE Hq.view loose mg B) (hm:(plainsOf Hq.view loose).find? (fun c=>c.name == ("Machine" :Str)) = tb.cr) (GG:LV loose = true) (hf:tw Hq.view loose = true)
  (tj:∀k∈Lq.cls, ∃C Bb newId gK bm,OwnClsQ k C bm newId mg B/\ExcBaseFacts Bb newId gK bm)
  (E6:∀c yes no,Lq.sb.lookup c=some (yes,no)-> ∃V,(mg c=some V\/(mg c=none/\mb c=some V))/\ ∀k C,mg k=some (.ref C)->(k∈yes->eN B C V true)/\(k∈no->eN B C V false))
  (xJ:∀cs yes no,Lq.sbt.lookup cs=some (yes,no)-> ∃Vs,f8 mg mb cs Vs/\ ∀k C,mg k=some (.ref C)->(k∈yes->dO B C Vs true)/\(k∈no->dO B C Vs false))
  (qG:∀(k:Nat) (x:Str) (d:D),Lq.gls[k]? = some x->glob[k]? = some d-> ∃v,mg x=some v/\ ∀(h':Heap) (Z:Addr->Prop),(∀a o,B.get? a=some o->h'.get? a=some o)->(∀a o,B.get? a=some o->Z a)->b5 h' Z v d):Gd glob where
 g:=T.g
 b:=T.b
 nl:=T.nolimit
 bt:=T.builtins
 fn:=λf d Kg hd=>by
  have hd:(recsOf Hq.view++_)[f]? = some d:=hd;rw[ZM (by refine Er (YZ (and_eq_true_iff.mp GG).2) ?_;exact Kg)]at hd;exact T.fn d (Zs hd)
 pl:=λc hc=>by
  refine ag λG1 g2=>?_
  have z:=and_eq_true_iff.mp (and_eq_true_iff.mp GG).1;refine ag λG2 g3=>?_
  obtain⟨h1,h2⟩:=and_eq_true_iff.mp z.1;refine iM (TE c (List.mem_of_find?_eq_some (hm.trans hc))) λC N mN Q=>?_;have hC:=Q.1;have P:=Q.2
  refine g3 ?_;refine g2 ?_;refine⟨C,N,mN,hC,P.ofCmp,λa ha=>⟨?_,am_miss_of_fast (all_eq_true.mp h2 a ha)⟩,λf d Kg hd=>?_⟩
  .rw[hc]at h1
   exact P.ofCmp.quiet a (Zw _ (contains_iff_mem.mp (all_eq_true.mp (show(tb.an.all λa=>c.statics.contains a)=true from h1) a ha)))
  .have hk:d∈tb.fn.drop 36:=by
    exact Zs (i:=f-36) (Er (List.getElem?_drop) (Er (Zn (show 36<=f from Kg)) hd))
   obtain⟨q1,q2⟩:=and_eq_true_iff.mp (all_eq_true.mp z.2 d hk);refine⟨?_,λq=>?_,nQ q1⟩
   .have hd:(recsOf Hq.view++(tb.cr.elim [] (·.meths)).map (λm=>(⟨m.name,m.params,m.body,m.scope,default⟩:DefRec)))[f]? = some d:=hd
    rw[ZL (by refine Er (YZ (and_eq_true_iff.mp GG).2) ?_;exact Kg),hc]at hd;refine aX (mem_map.mp (Zs hd)) λm u=>?_;refine Er u.2.symm ?_
    exact u.1
   .rw[contains_iff_mem.mpr q]at q2;exact noConfusion q2
 gl:=qG
 bi:=λx hx=>by
  simp only[tw,ZQ,Z8,not_eq_true',List.contains_eq_mem,decide_eq_false_iff_not]at hf;refine ag λG g1=>?_
  obtain⟨⟨⟨⟨h1,h2⟩,h3⟩,h4⟩,h5⟩:=hf x hx;exact g1 (T.free x h1 h2 h3 h4 h5)
 cl:=tj
 ask:=E6
 askT:=xJ
theorem const_int {i:Int} (T:Top Hq.view loose pC mg mb B) (hv:valOf Hq.view x=some (.int i)):∃v,mg x=some v/\ ∀(h':Heap) (Z:Addr->Prop),(∀a o,B.get? a=some o->h'.get? a=some o)->(∀a o,B.get? a=some o->Z a)->b5 h' Z v (.int i):=by
 refine aX (T.const x _ hv) λv q=>?_
 refine⟨v,q.1,λh' Z aa aA=>?_⟩;cases q.2 B with
 |int i t=>exact .int i t
theorem uB {lv:List (Str×WData)} {i:Int} (V:LooseAre lv mg B) (hm:(x,WData.int i)∈lv):∃v,mg x=some v/\ ∀(h':Heap) (Z:Addr->Prop),(∀a o,B.get? a=some o->h'.get? a=some o)->(∀a o,B.get? a=some o->Z a)->b5 h' Z v (.int i):=by
 obtain⟨v,hg,hr⟩:=V.val _ hm;refine⟨v,hg,λh' Z aa aA=>?_⟩;cases hr with
 |int i t=>exact .int i t
end
theorem pJ {P:Params} :∀ {vs:List Value} {xs:List Int},WellAll P h vs (ofPys (xs.map .int))->am h Z vs (xs.map .int):=by
 intro vs xs
 induction xs generalizing vs with
 |nil=>exact @λW=>by cases W;exact .nil
 |cons x xs ih=>
  intro W;cases W with
  |cons a b=>
   cases a with
   |int _ t=>exact .cons (.int _ t) (ih b)
theorem AF {loose:List Str} {pC HR:ExcName->Option Value} {s₁:Shared} {P:Pr} {nss:List (List Str)} {l:Addr} {xs:List Int} {c:ClaimW} {cl:Str->Option Addr} {args:List WData}
  (hh:B = s₁.heap) (T:Top Hq.view loose pC mg mb B) (TE:TopE Hq.view loose mg B) (hm:(plainsOf Hq.view loose).find? (fun c=>c.name == ("Machine" :Str)) = tb.cr) (GG:LV loose = true) (A2:xO 0 tb.fn P.fns nss = true) (Oz:bL tb.fn P.fns nss = bR tb.fn P.fns nss) (mq:tw Hq.view loose = true)
  (tj:∀k∈Lq.cls, ∃C Bb newId gK bm,OwnClsQ k C bm newId mg B/\ExcBaseFacts Bb newId gK bm)
  (E6:∀c yes no,Lq.sb.lookup c=some (yes,no)-> ∃V,(mg c=some V\/(mg c=none/\mb c=some V))/\ ∀k C,mg k=some (.ref C)->(k∈yes->eN B C V true)/\(k∈no->eN B C V false))
  (xJ:∀cs yes no,Lq.sbt.lookup cs=some (yes,no)-> ∃Vs,f8 mg mb cs Vs/\ ∀k C,mg k=some (.ref C)->(k∈yes->dO B C Vs true)/\(k∈no->dO B C Vs false))
  (qG:∀(k:Nat) (x:Str) (d:D),Lq.gls[k]? = some x->P.glob[k]? = some d-> ∃v,mg x=some v/\ ∀(h':Heap) (Z:Addr->Prop),(∀a o,B.get? a=some o->h'.get? a=some o)->(∀a o,B.get? a=some o->Z a)->b5 h' Z v d)
  (E1:f<36) (hd:(recsOf Hq.view)[f]? = some d) (LI:mg d.name=some (.ref fa)) (W:Well w.params s₁.heap (.ref l) (ofPy (.list (xs.map .int)))) (da:xs.length<=Sz) (hn:n<=340) (LH:s₁.gens = #[])
  (hr:∀cls,c.raises args cls=false) (hp:c.post args (.bool true) args=true)
  (h:cF P n false f [.fz (.list (xs.map .int))]=some (.ok (.fz (.bool true)),aK)):
  codeAny (model prog w) callerA (.call (.ref fa) ⟨[.ref l],[]⟩) (GoodWG c cl HR args s₁) s₁:=by
 have hb:∀a o,B.get? a=some o->s₁.heap.get? a=some o:=λa o e=>hh▸e
 have Oy:claimMargin=300:=by decide
 have gd:=Gd.of_top T TE hm GG mq tj E6 xJ qG;have c5:tb.fn[f]? = some d:=by
  exact Er (ZM (by refine Er (YZ (and_eq_true_iff.mp GG).2) ?_;exact E1)) hd
 refine ag λG2 g1=>?_
 obtain⟨a,o,pm,code,gk,mn,ho,E3,pR⟩:=gd.fn f d E1 c5;have mn:=LI▸mn;cases mn;refine g1 ?_;refine codeAny_mono ((r9 gd (λf fn d h1 h2=>let ⟨ns,q⟩:=A8 A2 Oz f fn d h1 h2;⟨ns,DG,Nat.zero_add f▸q⟩) n) false f _ _ _ h d c5 none fa (⟨⟨λaa=>E1,λaa=>rfl⟩,o,d.name,pm,code,gk,ho,E3,pR⟩) callerA (λaa=>False) (λaa=>none) (λa=> ∃o,s₁.heap.get? a=some o) s₁ [.ref l] ?_ ?_ (λaa=>rfl) ⟨[],rfl,λaa h=>by cases h⟩ ⟨hb,λa o e=>⟨o,hb a o e⟩,λaa aA=>rfl,λaa aA f=>f,λaa aA f=>f,λaa z=>z,λaa z=>absurd rfl z,λaa f=>f.elim⟩ (λaa aA bF q=>ah q) ⟨rfl,λaa aA bF gy q=>ah q,λk sl v e1 e2=>?_⟩) λr s' p=>?_
 .exact(Ln [claimMargin,n] (.w (.a (.a (.c 1) .x) (.m 2 .y)) (.c 999)) [(2,.w .y (.c 340)),Ge .x (.c 300)] rfl hn Oy)
 .exact(Ln [n] (.w (.a (.c 4) (.m 8 .x)) (.c 4000)) [(8,.w .x (.c 340))] rfl hn)
 .cases k with
  |zero=>
   refine Er (aI e1).symm ?_;refine Er (aI e2).symm ?_;refine⟨(λq=>by cases q),?_⟩;refine ag λG1 g=>?_
   cases W with
   |@list _ vs ws rH A2=>
    exact g (.list ⟨_,rH⟩ rH (by refine Er ((pJ (Z:=λaa=>True) A2).length) ?_;rw[ZG];exact da) (pJ A2))
  |succ k=>
   exact ah e2
 .obtain⟨ae,Z',G,_,S,_,_,_,⟨rv,v,q,rfl,R⟩|⟨nm,a,q,_⟩⟩:=p
  rotate_left
  .exact CF q
  obtain rfl:=iE q;refine fM S.sh λh' tk Q=>?_;subst Q
  refine GoodW.toG ⟨.inl ⟨v,.bool true,[],rfl,hr,?_,hp,λaa=>⟨List.nodup_nil,λa ha=>by cases ha⟩⟩,λa o e=>G.base a o (hh▸e),rfl,LH⟩;cases R;exact .bool true
end Mv
end
section
set_option backward.match.sparseCases false
namespace Mv
open PySem PySem.W PyProof.Rows
section
variable {prog:Program} {w:World} {A:Around} {E:Value->Shared->Prop} {s:Shared} {K:Frag} {x D:Addr} {ox:Obj}
theorem uV {Q:Option Value→Shared→Prop} (X:K.In s.heap) (I:InstAt s.heap x ox D none) (EZ:findIn K (.ref D) "__getattribute__" = some (some (.builtin "BaseException.__getattribute__"))) (EY:findIn K (.ref D) "__getattr__" = some none)
  (hf:findObj K D none "__class__" = some (.bind (.builtin "getset_descriptor.__get__") (.builtin "object.__class__"))) (EV:mroIn K D (.type "BaseException") = some true) (ET:mroIn K D (.type "object") = some true)
  (h:Q (some (.ref D)) {s with toks:=s.toks + 1}) :wpAny (model prog w) A (getAttr? (.ref x) "__class__") Q E s:=by
 obtain⟨hh,g,d,t,os⟩:=s;have L0:=I.type (M:=model prog w);have L2:=looks_findIn (M:=model prog w) X EY;have L3:=looks_find (M:=model prog w) X I hf;have L4:=looks_mroIn (M:=model prog w) X EV;unfold getAttr? getAttrBy? getAttrBy;refine YY (wpAny_mkText (YY (wpAny_attempt (wpAny_holding (YY (L0.at (YY ((looks_findIn (M:=model prog w) X EZ).at ?_))))))));dsimp only;refine Er (Y1 (by simp)) ?_;have f3:=(PySem.F.attrBase_ValueError).ga.bind (.ref x)
 repeat (any_goals (first|assumption|with_reducible refine Looks.at (by assumption) ?_|wp_step))
 refine codeAny_call_builtin (PySem.F.attrBase_ValueError).ga.plain PySem.F.entry_bexc_ga ?_;have hk:builtinKind "BaseException.__getattribute__" = some .slot:=by decide +kernel
 have EO:splitId "BaseException.__getattribute__" = some ("BaseException","__getattribute__"):=by decide +kernel
 have ha:=PySem.F.args_bexc_ga (.ref x) (.str "__class__" t);simp only [checkBuiltinCall,hk,EO,cons_append,Zq];refine YY ?_;unfold isInstance
 repeat (any_goals (first|assumption|with_reducible refine Looks.at (by assumption) ?_|wp_step))
 refine class_get (s:=⟨hh,g,d,t+1,os⟩) (od:=none) X I ET ?_
 repeat (any_goals (first|assumption|wp_step))
theorem yA {K:Frag} {D:Addr} (h:(clsIn K D).isSome=true):∃c d cd sl,K.lookup D=some ⟨c,d,.cls cd,sl⟩:=by
 delta clsIn at h
 cases e:K.lookup D with
 |none=>have h:=e▸h;exact noConfusion h
 |some o=>
  obtain⟨c,d,dat,sl⟩:=o;cases dat<;>first|exact⟨_,_,_,_,rfl⟩|exact noConfusion (e▸h)
theorem pH (EZ:findIn K (.ref D) "__getattribute__" = some (some (.builtin "BaseException.__getattribute__"))) (EY:findIn K (.ref D) "__getattr__" = some none)
  (hf:findObj K D none "__class__" = some (.bind (.builtin "getset_descriptor.__get__") (.builtin "object.__class__"))) (EV:mroIn K D (.type "BaseException") = some true) (ET:mroIn K D (.type "object") = some true) (tj:(clsIn K D).isSome = true) :
  KitX K (.ref x) (.ref D) (λh=> ∃ox,InstAt h x ox D none) where
 ty:=λ_ _ _ ⟨_,I⟩=>I.type
 it:=λaa aA X bF=>by
  refine lM (yA tj) λc d cd sl ho=>?_
  intro A' Q' E' s' k q;unfold isType loadHead;exact YY (wpAny_loadPart (k _ _ (X _ _ ho)) (YU q))
 ne:=λh tp dd its n sl X Ob=>by
  refine lM (yA tj) λc d cd sl ho=>?_
  refine Bool.eq_false_iff.mpr λq=>?_
  have e:=Value.ref.inj (beq_iff_eq.mp q);subst e;have z:=(X _ _ ho).symm.trans Ob;cases z
 ca:=λX ⟨_,I⟩ k=>uV X I EZ EY hf EV ET k
end
theorem yI {K:Frag} {B:Heap} {D:Addr} {V:Value} {b:Bool} (X:K.In B) (EZ:findIn K (.ref D) "__getattribute__" = some (some (.builtin "BaseException.__getattribute__"))) (EY:findIn K (.ref D) "__getattr__" = some none)
  (hf:findObj K D none "__class__" = some (.bind (.builtin "getset_descriptor.__get__") (.builtin "object.__class__"))) (EV:mroIn K D (.type "BaseException") = some true) (ET:mroIn K D (.type "object") = some true) (tj:(clsIn K D).isSome = true)
  (h1:kitOne K (.ref D) V=some b) (h2:exmOne K (.ref D) V=some b):eN B D V b:=by
 intro prog w A E s a o hB ha hc;have I:InstAt s.heap a o D none:=⟨ha,hc.1,by obtain⟨_,_,vs,hd⟩:=hc;obtain⟨c,o⟩:=o;cases hd;rfl,by refine Er hc.2.1 ?_;trivial⟩
 exact⟨λQ q=>exm_one (X.keeps hB) I.type h2 A Q E s (λaa aA e=>e) q,λQ q=>kia_one (pH EZ EY hf EV ET tj) (X.keeps hB) ⟨o,I⟩ h1 (by intro z;cases z) q⟩
theorem vv {K:Frag} {B:Heap} {D:Addr} {Vs:List Value} {b:Bool} (X:K.In B) (EZ:findIn K (.ref D) "__getattribute__" = some (some (.builtin "BaseException.__getattribute__"))) (EY:findIn K (.ref D) "__getattr__" = some none)
  (hf:findObj K D none "__class__" = some (.bind (.builtin "getset_descriptor.__get__") (.builtin "object.__class__"))) (EV:mroIn K D (.type "BaseException") = some true) (ET:mroIn K D (.type "object") = some true) (tj:(clsIn K D).isSome = true)
  (h1:kitAny K (.ref D) Vs=some b):dO B D Vs b:=by
 intro prog w A E s a tp o hB ha hc ht Q q;have I:InstAt s.heap a o D none:=⟨ha,hc.1,by obtain⟨_,_,vs,hd⟩:=hc;obtain⟨c,o⟩:=o;cases hd;rfl,by refine Er hc.2.1 ?_;trivial⟩
 exact kia_tup (pH EZ EY hf EV ET tj) (X.keeps hB) ⟨o,I⟩ ht h1 (by intro z;cases z) q
noncomputable def xw (r:Option Builtin.ObjectAttr.Found):Bool:=match r with
 | some (.bind g a)=>decide (g = .builtin "getset_descriptor.__get__") && decide (a = .builtin "object.__class__")
 |_=>false
theorem mj {r:Option Builtin.ObjectAttr.Found} (h:xw r = true) :r = some (.bind (.builtin "getset_descriptor.__get__") (.builtin "object.__class__")):=by
 cases r with
 |none=>exact noConfusion h
 |some f=>
  cases f with
  |bind g a=>
   exact Er (YZ (and_eq_true_iff.mp h).1) (Er (YZ (and_eq_true_iff.mp h).2) rfl)
  |value v=>exact noConfusion h
  |missing=>exact noConfusion h
noncomputable def mu (K:Frag) (D:Addr):Bool:=
 (findIn K (.ref D) "__getattribute__" == some (some (.builtin "BaseException.__getattribute__"))) && (findIn K (.ref D) "__getattr__" == some none) && xw (findObj K D none "__class__") && (mroIn K D (.type "BaseException") == some true) && (mroIn K D (.type "object") == some true) && (clsIn K D).isSome
noncomputable def FY (K:Frag) (V:Value) (b:Bool) (g:Option Value):Bool:=match g with
 |some (.ref D)=>mu K D&&(kitOne K (.ref D) V==some b)&&(exmOne K (.ref D) V==some b)
 |_=>false
noncomputable def yJ (K:Frag) (Vs:List Value) (b:Bool) (g:Option Value):Bool:=match g with
 |some (.ref D)=>mu K D&&(kitAny K (.ref D) Vs==some b)
 |_=>false
theorem tT [Hp] {K:Frag} {B:Heap} {D:Addr} (X:K.In B) (h:FY K V b (some (.ref D))=true):eN B D V b:=by
 have h:(mu K D&&(kitOne K (.ref D) V==some b)&&(exmOne K (.ref D) V==some b))=true:=h;simp only[mu,Z8,beq_iff_eq]at h;refine ag λG g=>?_
 obtain⟨⟨⟨⟨⟨⟨⟨h1,h2⟩,h3⟩,h4⟩,h5⟩,h6⟩,h7⟩,h8⟩:=h;exact g (yI X h1 h2 (mj h3) h4 h5 h6 h7 h8)
theorem qt [Hp] {K:Frag} {B:Heap} {Vs:List Value} {D:Addr} (X:K.In B) (h:yJ K Vs b (some (.ref D))=true):dO B D Vs b:=by
 have h:(mu K D&&(kitAny K (.ref D) Vs==some b))=true:=h;simp only[mu,Z8,beq_iff_eq]at h;refine ag λG g=>?_
 obtain⟨⟨⟨⟨⟨⟨h1,h2⟩,h3⟩,h4⟩,h5⟩,h6⟩,h7⟩:=h;exact g (vv X h1 h2 (mj h3) h4 h5 h6 h7)
noncomputable def Fq (K:Frag) (g:Str->Option Value) (V:Value) (yes no:List Str):Bool:=(yes.all λk=>FY K V true (g k))&&no.all λk=>FY K V false (g k)
noncomputable def Fp (K:Frag) (g:Str->Option Value) (Vs:List Value) (yes no:List Str):Bool:=(yes.all λk=>yJ K Vs true (g k))&&no.all λk=>yJ K Vs false (g k)
theorem Bk [Hp] {K:Frag} {B:Heap} {g:Str->Option Value} {no:List Str} (X:K.In B) (h:Fq K g V yes no=true):∀k C,g k=some (.ref C)->(k∈yes->eN B C V true)/\(k∈no->eN B C V false):=by
 simp only[Fq,Z8,ZQ]at h;exact λk C hk=>⟨λhm=>tT X (hk▸h.1 k hm),λhm=>tT X (hk▸h.2 k hm)⟩
theorem Bj [Hp] {K:Frag} {B:Heap} {g:Str->Option Value} {Vs:List Value} {no:List Str} (X:K.In B) (h:Fp K g Vs yes no=true):∀k C,g k=some (.ref C)->(k∈yes->dO B C Vs true)/\(k∈no->dO B C Vs false):=by
 simp only[Fp,Z8,ZQ]at h;exact λk C hk=>⟨λhm=>qt X (hk▸h.1 k hm),λhm=>qt X (hk▸h.2 k hm)⟩
noncomputable def iZ (K:Frag) (x:Str):Option Value:=match K.lookup mainGlobals with
 |some ⟨_,_,.dict es _,_⟩=>nsFind es x
 |_=>none
theorem A5 {K:Frag} {mg:Str->Option Value} (X:K.In h) (g:h.Ns mainGlobals mg) {es:Array DictEntry} {c:Value} {d:Option Addr} {ep:Nat} {sl:Array (Option Value)} (hk:K.lookup mainGlobals=some ⟨c,d,.dict es ep,sl⟩) (x:Str):mg x=iZ K x:=by
 refine ag λG g1=>?_
 obtain⟨o,CD,CH,ho,hd,_,hf⟩:=g;have:=X _ _ hk;rw[this]at ho;obtain rfl:=aI ho;cases hd;refine g1 ?_;unfold iZ;exact Er hk ((hf x).symm)
theorem kN [BEq α] [LawfulBEq α] {l:List (α×β)} {a:α} {b:β} (h:l.lookup a=some b):(a,b)∈l:=by
 induction l with
 |nil=>exact ah h
 |cons p l ih=>
  rw[ZC]at h;cases q:a==p.1 with
  |true=>rw[q]at h;refine Er (aI h).symm ?_;rw[beq_iff_eq]at q;exact Er q (.head _)
  |false=>rw[q]at h;exact .tail _ (ih h)
theorem re {p:Program} {loose:List Str} {pC:ExcName->Option Value} {mg mb:Str->Option Value} (T:Top p loose pC mg mb h) {cls:List Str} {Bb MI N5:String} {bm:List Value} (FB:ExcBaseFacts Bb MI N5 bm)
  (hc:(cls.all λk=>(ownsOf p).any λo=>decide (o.name=k)&&decide (o.newId=MI)&&(o.bm==bm))=true):∀k∈cls, ∃C Bb newId gK bm,OwnClsQ k C bm newId mg h/\ExcBaseFacts Bb newId gK bm:=λk hk=>by
 rw[ZQ]at hc;refine ag λG g=>?_
 obtain⟨o,ho,hq⟩:=any_eq_true.mp (hc k hk);simp only[Z8,Y4,beq_iff_eq]at hq;obtain⟨⟨rfl,rfl⟩,rfl⟩:=hq;refine aX (T.own o ho) λC q=>?_
 exact g (⟨C,_,_,_,_,q.1,FB⟩)
end Mv
end
variable {d:Mv.D} {r:Int} {i e m n:Nat} {x f:PySem.Str} {l ns kn:List PySem.Str} {cs:List (PySem.Str×Nat)} {vs ts us:List Mv.D} {R:Except PySem.Str Mv.D×Nat}
section
set_option backward.match.sparseCases false
open PySem PySem.W PyProof.Rows Mv
set_option maxHeartbeats 8000000
namespace Lq
theorem chk:xO 0 tb.fn P.fns nss=true:=by decide +kernel
theorem chkBd:bL tb.fn P.fns nss=bR tb.fn P.fns nss:=by kernel_rfl
theorem chkF:tw Hq.view (looseW Hq.view Hq.loose)=true:=by decide +kernel
theorem chkM:(plainsOf Hq.view (looseW Hq.view Hq.loose)).find? (fun c=>c.name == ("Machine" :Str)) = tb.cr:=by kernel_rfl
theorem chkR:LV (looseW Hq.view Hq.loose)=true:=by decide +kernel
theorem chkC:(cls.all fun k=>(ownsOf Hq.view).any fun o=>decide (o.name = k) && decide (o.newId = "ValueError.__new__") && (o.bm == [.type "ValueError",.type "Exception",.type "BaseException",.type "object"])) = true:=by decide +kernel
noncomputable def F5 (K:Frag) (x:Str) :Value:=(iZ K x).getD (.type "ValueError")
theorem LY (P:Params):(sb.all λe=>Fq (Hq.K P) (iZ (Hq.K P)) (F5 (Hq.K P) e.1) e.2.1 e.2.2&&((iZ (Hq.K P) e.1).isSome||decide (e.1=(⟨#[86,97,108,117,101,69,114,114,111,114]⟩:Str))))=true:=by kernel_rfl
theorem LW (P:Params):(sbt.all λe=>Fp (Hq.K P) (iZ (Hq.K P)) (e.1.map (F5 (Hq.K P))) e.2.1 e.2.2&&e.1.all λx=>(iZ (Hq.K P) x).isSome)=true:=by kernel_rfl
theorem FV:bootBuiltins (⟨#[86,97,108,117,101,69,114,114,111,114]⟩ :Str) = some (.type "ValueError"):=by kernel_rfl
theorem kG (P:Params):∃c d es ep sl,(Hq.K P).lookup mainGlobals=some ⟨c,d,.dict es ep,sl⟩:=⟨_,_,_,_,_,rfl⟩
end Lq
end
section
namespace Lq
open PySem Mv
noncomputable def dZ (i:Int):Bool:=decide (-1000000000000000000<i)&&decide (i<1000000000000000000)
mutual
noncomputable def dep:D->Nat
 |.tuple ds=>cV ds+1
 |_=>0
noncomputable def cV:List D->Nat
 |[]=>0
 |d::ds=>max (dep d) (cV ds)
end
mutual
noncomputable def wt:D->Nat
 |.tuple ds=>1+dG ds
 |_=>1
noncomputable def dG:List D->Nat
 |[]=>0
 |d::ds=>wt d+dG ds
end
mutual
noncomputable def dF:D->Bool
 |.tuple ds=>cS ds
 |.int i=>dZ i
 |_=>false
noncomputable def cS:List D->Bool
 |[]=>true
 |d::ds=>dF d&&cS ds
end
inductive j4 {α:Sort _} (A B:α->Prop):Prop
 |mk (x:α):A x->B x->j4 A B
inductive vC {α:Sort _} (A B C:α->Prop):Prop
 |mk (x:α):A x->B x->C x->vC A B C
inductive Mq {α β:Sort _} (A B:α->β->Prop):Prop
 |mk (x:α) (y:β):A x y->B x y->Mq A B
inductive Gg {α β:Sort _} (A B C:α->β->Prop):Prop
 |mk (x:α) (y:β):A x y->B x y->C x y->Gg A B C
theorem m5 (d:D):1<=wt d:=by cases d<;>first|exact Zi 1|exact Zl _ _
noncomputable def kF (d:D) (r:Int):Int:=if dF d=true/\(wt d:Int)<=r then r-wt d else -1
theorem gP (h:dF d=true/\(wt d:Int)<=r):kF d r=r-wt d:=Y0 h
theorem bX (h:¬(dF d=true/\(wt d:Int)<=r)):kF d r = -1:=Y1 h
theorem ul (n:Nat) (t:D) (r0:Int) (ih:∀(d:D) (r:Int),dep d<n->cF P n false 0 [.fz d,.fz (.int r)]=some (.ok (.fz (.int (kF d r))),[])):∀(ds:List D) (left:Int) (s4:Slot),cV ds<n->0<=left->
  ((cS ds=true/\(dG ds:Int)<=left)->cU ⟨P.glob,cF P n,[],false⟩ [.fz t,.fz (.int r0),.no,.fz (.int left),s4] (.one 4) [.asg (.one 3) (.call 0 [af 4,af 3]),.iff (.cmp .lt (af 3) (aj 0)) [.ret (.neg (aj 1))] []] [4] ds=some (.ok .next,[.fz t,.fz (.int r0),.no,.fz (.int (left-dG ds)),.no]))/\
  (¬(cS ds=true/\(dG ds:Int)<=left)-> ∃fr,cU ⟨P.glob,cF P n,[],false⟩ [.fz t,.fz (.int r0),.no,.fz (.int left),s4] (.one 4) [.asg (.one 3) (.call 0 [af 4,af 3]),.iff (.cmp .lt (af 3) (aj 0)) [.ret (.neg (aj 1))] []] [4] ds=some (.ok (.ret (.fz (.int (-1)))),fr)):=by
 intro ds
 induction ds with
 |nil=>
  intro left s4 _ hl;refine⟨λaa=>?_,λh=>absurd ⟨rfl,hl⟩ h⟩;have e:left-((dG []:Nat):Int)=left:=Int.sub_zero left;rw[bN];refine Er e ?_;rfl
 |cons d ds IH=>
  intro left s4 h hl;have h1:dep d<n:=by exact(Ln [dep d,n,max (dep d) (cV ds)] (.w (.p 1 .x) .y) [Gl (.p 1 .z) .y,Gl .x .z] rfl h (Nat.le_max_left (dep d) (cV ds)))
  have h2:cV ds<n:=by exact(Ln [cV ds,n,max (dep d) (cV ds)] (.w (.p 1 .x) .y) [Gl (.p 1 .z) .y,Gl .x .z] rfl h (Nat.le_max_right (dep d) (cV ds)))
  have e:=ih d left h1;have eg:cS (d::ds)=(dF d&&cS ds):=rfl;refine Er eg (Er (rfl:dG (d::ds)=wt d+dG ds) ?_)
  by_cases hg:dF d=true/\(wt d:Int)<=left
  .rw[gP hg]at e
   have lt:¬(left-(wt d:Int)<0):=by exact(λHL=>(jY [wt d] [left] [Gi (.n .x) .x,Gi (.p 1 (.s .x (.n .x))) (.c 0)] rfl hg.2 HL))
   refine⟨λz=>?_,λz=>?_⟩
   .have z1:=z.1
    rw[hg.1,Bool.true_and]at z1;have q:=(IH (left-wt d) (.fz d) h2 (bC [wt d] [left] 1 (.i (.c 0) (.s .x (.n .x))) [Gi (.n .x) .x] rfl hg.2)).1 ⟨z1,by have:=z.2;push_cast at this;exact(bC [dG ds,wt d] [left] 1 (.i (.n .x) (.s .x (.n .y))) [Gi (.n (.a .y .x)) .x] rfl z.2)⟩;have:left - ↑(wt d) - ↑(dG ds)=left - ↑(wt d+dG ds):=by push_cast;exact(ZX (bC [wt d,dG ds] [left] 1 (.i (.s (.s .x (.n .x)) (.n .y)) (.s .x (.a (.n .x) (.n .y)))) [] rfl) (bC [wt d,dG ds] [left] 1 (.i (.s .x (.a (.n .x) (.n .y))) (.s (.s .x (.n .x)) (.n .y))) [] rfl))
    rw[this]at q;exact jW [.c 0 e,.b 0 (show au Cm.lt (int (left-(↑(wt d):Int))) (int (0:Int))=some false by simp only[bB,lt,Y3]),.lp 1 q] rfl
   .obtain⟨fr,q⟩:=(IH (left-wt d) (.fz d) h2 (bC [wt d] [left] 1 (.i (.c 0) (.s .x (.n .x))) [Gi (.n .x) .x] rfl hg.2)).2 λz'=>z ⟨by refine Er hg.1 (Er z'.1 ?_);rfl,by have:=z'.2;push_cast;exact(bC [wt d,dG ds] [left] 1 (.i (.a (.n .x) (.n .y)) .x) [Gi (.n .y) (.s .x (.n .x))] rfl z'.2)⟩
    exact⟨fr,by exact jW [.c 0 e,.b 0 (show au Cm.lt (int (left-(↑(wt d):Int))) (int (0:Int))=some false by simp only[bB,lt,Y3]),.lp 1 q] rfl⟩
  .rw[bX hg]at e
   refine⟨λz=>absurd ⟨?_,by have:=z.2;push_cast at this;exact(bC [wt d,dG ds] [left] 1 (.i (.n .x) .x) [Gi (.n (.a .x .y)) .x] rfl z.2)⟩ hg,λaa=>⟨[.fz t,.fz (.int r0),.no,.fz (.int (-1)),.fz d],by exact jW [.c 0 e] rfl⟩⟩;have z1:=z.1;rw[Z8]at z1;exact z1.1
theorem z6:∀(n:Nat) (d:D) (r:Int),dep d<n->cF P n false 0 [.fz d,.fz (.int r)]=some (.ok (.fz (.int (kF d r))),[]):=by
 intro n
 induction n with
 |zero=>intro d r h;exact(False.elim (Lf [dep d] [Gl (.p 1 .x) (.c 0)] rfl h))
 |succ n ih=>
  intro d r h
  by_cases h1:r<1
  .exact Er (bX (by have:=m5 d;exact(λwS=>(jY [wt d] [r] [Gi (.p 1 .x) (.c 1),Gl (.c 1) .x,Gi (.n .x) .x] rfl h1 this wS.2)))) (aM [.b 0 (show au Cm.lt (int r) (int (1:Int))=some true by simp only[bB,h1,Y2])] rfl)
  .cases d with
   |tuple ds=>
    obtain⟨q1,q2⟩:=ul n (.tuple ds) r ih ds (r-1) .no (by exact(L1 [cV ds,n] (.p 1 .x) .y (.p 1 (.p 1 .x)) (.p 1 .y) rfl h)) (Li [r] (.i (.c 0) (.s .x (.c 1))) [Gi (.c 1) .x] rfl (Int.not_lt.mp h1))
    by_cases hg:cS ds=true/\(dG ds:Int)<=r-1
    .have q:=q1 hg
     refine Er (gP ⟨by refine Er (rfl:dF (.tuple ds)=cS ds) ?_;exact hg.1,by refine Er (rfl:wt (.tuple ds)=1+dG ds) ?_;push_cast;exact(bC [dG ds] [r] 1 (.i (.a (.c 1) (.n .x)) .x) [Gi (.n .x) (.s .x (.c 1))] rfl hg.2)⟩) (Er (rfl:wt (.tuple ds)=1+dG ds) ?_);have:r-1-(dG ds:Int)=r-((1+dG ds:Nat):Int):=by push_cast;exact(ZX (bC [dG ds] [r] 1 (.i (.s (.s .x (.c 1)) (.n .x)) (.s .x (.a (.c 1) (.n .x)))) [] rfl) (bC [dG ds] [r] 1 (.i (.s .x (.a (.c 1) (.n .x))) (.s (.s .x (.c 1)) (.n .x))) [] rfl))
     exact Er this.symm (aM [.b 0 (show au Cm.lt (int r) (int (1:Int))=some false by simp only[bB,h1,Y3]),.lp 6 q] rfl)
    .obtain⟨fr,q⟩:=q2 hg
     exact Er (bX (λz=>hg ⟨by rw[(rfl:dF (.tuple ds)=cS ds)]at z;exact z.1,by have:=z.2;rw[(rfl:wt (.tuple ds)=1+dG ds)]at this;push_cast at this;exact(bC [dG ds] [r] 1 (.i (.n .x) (.s .x (.c 1))) [Gi (.a (.c 1) (.n .x)) .x] rfl this)⟩)) (aM [.b 0 (show au Cm.lt (int r) (int (1:Int))=some false by simp only[bB,h1,Y3]),.lp 6 q] rfl)
   |int i=>
    have eg:dF (.int i)=dZ i:=rfl;have ew:wt (.int i)=1:=rfl;refine ag λG g=>?_
    by_cases h2: -1000000000000000000<i
    .refine g ?_
     by_cases h3:i<1000000000000000000
     .refine Er (gP ⟨by refine Er eg ?_;simp[dZ,h2,h3],by refine Er ew ?_;exact(Li [r] (.i (.n (.c 1)) .x) [Gi (.c 1) .x] rfl (Int.not_lt.mp h1))⟩) ?_
      exact Er (rfl:((wt (.int i):Nat):Int)=1) (aM [.b 0 (show au Cm.lt (int r) (int (1:Int))=some false by simp only[bB,h1,Y3]),.b 9 (show au Cm.lt (int (-1000000000000000000:Int)) (int i)=some true by simp only[reduceNeg,bB,h2,Y2]),.b 1 (show au Cm.lt (int i) (int (1000000000000000000:Int))=some true by simp only[bB,h3,Y2])] rfl)
     .exact Er (bX (λz=>h3 (by have:=z.1;rw[eg]at this;simp[dZ]at this;exact this.2))) (aM [.b 0 (show au Cm.lt (int r) (int (1:Int))=some false by simp only[bB,h1,Y3]),.b 9 (show au Cm.lt (int (-1000000000000000000:Int)) (int i)=some true by simp only[reduceNeg,bB,h2,Y2]),.b 1 (show au Cm.lt (int i) (int (1000000000000000000:Int))=some false by simp only[bB,h3,Y3])] rfl)
    .refine g ?_
     exact Er (bX (λz=>h2 (by have:=z.1;have this:=eg▸this;simp[dZ]at this;exact this.1))) (aM [.b 0 (show au Cm.lt (int r) (int (1:Int))=some false by simp only[bB,h1,Y3]),.b 9 (show au Cm.lt (int (-1000000000000000000:Int)) (int i)=some false by simp only[reduceNeg,bB,h2,Y3])] rfl)
   |none=>exact Er (bX (λz=>by cases z.1)) (aM [.b 0 (show au Cm.lt (int r) (int (1:Int))=some false by simp only[bB,h1,Y3])] rfl)
   |bool b=>exact Er (bX (λz=>by cases z.1)) (aM [.b 0 (show au Cm.lt (int r) (int (1:Int))=some false by simp only[bB,h1,Y3])] rfl)
   |str b=>exact Er (bX (λz=>by cases z.1)) (aM [.b 0 (show au Cm.lt (int r) (int (1:Int))=some false by simp only[bB,h1,Y3])] rfl)
   |list b=>exact Er (bX (λz=>by cases z.1)) (aM [.b 0 (show au Cm.lt (int r) (int (1:Int))=some false by simp only[bB,h1,Y3])] rfl)
   |dict b=>refine Er (bX (λz=>by cases z.1)) ?_;exact aM [.b 0 (show au Cm.lt (int r) (int (1:Int))=some false by simp only[bB,h1,Y3])] rfl
theorem pI (n:Nat) (d:D) (h:dep d<n):cF P (n+1) false 1 [.fz d]=some (.ok (.fz (.bool (dF d&&decide (wt d<=50)))),[]):=by
 have:decide (0<=kF d 50)=(dF d&&decide (wt d<=50)):=by
  by_cases hg:dF d=true/\(wt d:Int)<=50
  .refine Er (gP hg) (Er hg.1 ?_)
   have h1:wt d<=50:=by exact(Ln [wt d] (.w .x (.c 50)) [Gi (.n .x) (.c 50)] rfl hg.2)
   have h2:(0:Int)<=50-wt d:=by exact(Ln [wt d] (.i (.c 0) (.s (.c 50) (.n .x))) [Gi (.n .x) (.c 50)] rfl hg.2)
   simp[h1];exact(hg.2)
  .refine Er (bX hg) ?_
   symm
   refine Er (show decide (0<=(-1:Int))=false from rfl) ?_;rw[Bool.and_eq_false_iff];cases hq:dF d with
   |false=>exact .inl rfl
   |true=>right;simp only[decide_eq_false_iff_not];intro z;exact hg ⟨hq,by exact(Ln [wt d] (.i (.n .x) (.c 50)) [Gl .x (.c 50)] rfl z)⟩
 exact Er this.symm (aM [.c 0 ((z6 n d 50 h)),.b 0 (show au Cm.ge (int (kF d (50:Int))) (int (0:Int))=some (decide ((0:Int)<=kF d (50:Int))) by simp only[FM])] rfl)
theorem gF {a b:Int} (ha:a.natAbs<2 ^ 64):uz a b=some (.fz (.int (a*b))):=by
 unfold uz pB;rw[Y5 ha];rfl
theorem wU {a b:Int} (hb:b.natAbs<2 ^ 64):uz a b=some (.fz (.int (a*b))):=by
 unfold uz pB;rw[Y5 hb,Bool.or_true];rfl
def Vl (d:D):Prop:=dF d=true/\dep d<=5/\wt d<=50
theorem Vl.int {i:Int} (h1: -1000000000000000000<i) (h2:i<1000000000000000000):Vl (.int i):=⟨by show dZ i=true;unfold dZ;rw[Y5 h1,Y5 h2];rfl,by show 0<=5;decide,by show 1<=50;decide⟩
theorem fm (a:Int) (m:Int) (h0:0<m):0<=a.fmod m/\a.fmod m<m:=⟨Int.fmod_nonneg_of_pos a h0,Int.fmod_lt_of_pos a h0⟩
def qS (d:D):Prop:= ∃i:Int,d = .int i/\0<=i/\i<1000
theorem oZ:∀ {ds:List D},(∀d∈ds,qS d)->cS ds=true/\cV ds=0/\dG ds=ds.length:=by
 intro ds
 induction ds with
 |nil=>exact @λaa=>⟨rfl,rfl,rfl⟩
 |cons d ds ih=>
  intro h;refine aX (h d Zt) λi Q=>?_;refine Er Q.1 ?_
  have q:=ih (mc h)
  refine⟨?_,?_,?_⟩
  .show(dZ i&&cS ds)=true
   unfold dZ;refine Er q.1 (Er (Y5 (by exact(Li [i] (.i (.p 1 (.g (.c 1000000000000000000))) .x) [Gi (.c 0) .x] rfl Q.2.1))) (Er (Y5 (by exact(Li [i] (.i (.p 1 .x) (.c 1000000000000000000)) [Gi (.p 1 .x) (.c 1000)] rfl Q.2.2))) ?_));rfl
  .exact(Zk (max_le.mpr ⟨(L0 [] (.c 0) (.c 0) rfl),(Ln [cV ds] (.w .x (.c 0)) [Ge .x (.c 0)] rfl q.2.1)⟩) (L0 [max (0:Nat) (cV ds)] (.c 0) .x rfl))
  .exact(Zk (Ln [dG ds,ds.length] (.w (.a (.c 1) .x) (.p 1 .y)) [Ge .x .y] rfl q.2.2) (Ln [ds.length,dG ds] (.w (.p 1 .x) (.a (.c 1) .y)) [Gf .y .x] rfl q.2.2))
theorem Vl.smalls {ds:List D} (h:∀d∈ds,qS d) (hl:ds.length<=49):Vl (.tuple ds):=by
 obtain⟨a,b,c⟩:=oZ h;exact⟨a,by show cV ds+1<=5;exact(Ln [cV ds] (.w (.p 1 .x) (.c 5)) [Ge .x (.c 0)] rfl b),by show 1+dG ds<=50;exact(Ln [dG ds,ds.length] (.w (.a (.c 1) .x) (.c 50)) [Gl .y (.c 49),Ge .x .y] rfl hl c)⟩
theorem idx_map (xs:List Int) (i:Int) (h0:0<=i) (h1:i<xs.length):∃c,bM (xs.map int) i=some (.int c):=by
 unfold bM;rw[Y0 h0];have hl:i.toNat<(xs.map int).length:=by rw[ZG];exact(bC [i.toNat,xs.length] [i] 1 (.w (.p 1 .x) .y) [Gi (.p 1 .x) (.n .y),Gj (.n .x) .x] rfl h1 (ZS (a:=i) h0))
 exact⟨xs[i.toNat]'(by simpa using hl),by rw[ZK hl];simp⟩
theorem cell (n:Nat) (xs:List Int) (i:Int) (h0:0<=i):∃c,cF P (n+1) false 10 [.fz (.list (xs.map .int)),.fz (.int i)]=some (.ok (.fz (.int c)),[]):=by
 by_cases q:i<xs.length
 .obtain⟨c,hc⟩:=idx_map xs i h0 q
  exact⟨c,by exact aM [.b 1 (show au Cm.lt (int i) (int (↑(List.map int xs).length:Int))=some true by simp only[ZG,bB,q,Y2]),.d 1 hc] rfl⟩
 .exact⟨0,by exact aM [.b 1 (show au Cm.lt (int i) (int (↑(List.map int xs).length:Int))=some false by simp only[ZG,bB,q,Y3])] rfl⟩
theorem Df (n:Nat) (bZ:Int) (s1:Slot):∀(ks:List Nat) (s2:Slot),(∀k∈ks,k<20)->
  ∃rs,bH ⟨P.glob,cF P n,[],false⟩ [.fz (.int bZ),s1,s2] (.op2 .mod (.op2 .fdiv (af 0) (aj 16)) (.op2 .add (af 2) (aj 2))) (.one 2) [] (ks.map λ(k:Nat)=>.int (0+k))=some (.ok rs,[.fz (.int bZ),s1,.no])/\rs.length=ks.length/\ ∀d∈rs,qS d:=by
 intro ks
 induction ks with
 |nil=>exact @λs2 aa=>⟨[],by refine Er Zy ?_;rw[cP];rfl,rfl,λaa h=>by cases h⟩
 |cons k ks ih=>
  intro s2 hk;refine aX (ih (.fz (.int (0+k))) (mc hk)) λrs q=>?_
  refine⟨.int ((bZ.fdiv 16).fmod (0+k+2))::rs,?_,Y7 (· + 1) q.2.1,λd hd=>?_⟩
  .have h0:¬((0:Int)+k+2=0):=by exact(λHN=>(Lf [k] [Gj (.p 2 (.a (.c 0) (.n .x))) (.c 0)] rfl HN))
   exact y4 [.cp 3 (q.1)] rfl
  .rcases mem_cons.mp hd with rfl|hd
   .exact⟨_,rfl,(fm (bZ.fdiv 16) (0+k+2) (Ln [k] (.i (.p 1 (.c 0)) (.p 2 (.a (.c 0) (.n .x)))) [] rfl)).1,by exact(bC [k] [(bZ.fdiv (16:Int)).fmod ((0:Int)+(↑k:Int)+(2:Int))] 1 (.i (.p 1 .x) (.c 1000)) [Gl (.p 1 .x) (.c 20),Gi (.p 1 .x) (.p 2 (.a (.c 0) (.n .x)))] rfl (hk k Zt) ((fm (bZ.fdiv 16) (0+k+2) (Ln [k] (.i (.p 1 (.c 0)) (.p 2 (.a (.c 0) (.n .x)))) [] rfl))).2)⟩
   .exact q.2.2 d hd
noncomputable abbrev sK:List D:=[.int 0,.int 1,.int 2,.int 3,.int 5,.int (-1),.int (-4),.tuple [],.tuple [.int 1],.tuple [.int 2,.int 0],.tuple [.int 1,.int 2,.int 3],.tuple [.tuple [],.int 1],.tuple [.tuple [.int 1,.int 2],.tuple [.int 3]],.tuple [.int 4,.tuple [.int 5,.tuple [.int 6]]]]
theorem bV {α:Type} {xs:List α} (h0:0<=r) (h1:r<xs.length):j4 (λd=>bM xs r=some d) (λd=>d∈xs):=by
 unfold bM;rw[Y0 h0];have hl:r.toNat<xs.length:=by exact(bC [r.toNat,xs.length] [r] 1 (.w (.p 1 .x) .y) [Gi (.p 1 .x) (.n .y),Gj (.n .x) .x] rfl h1 (ZS (a:=r) h0))
 exact⟨xs[r.toNat],ZK hl,getElem_mem hl⟩
noncomputable def Gy (d:D):Bool:=dF d&&decide (dep d<=5)&&decide (wt d<=50)
theorem ng (h:Gy d=true):Vl d:=by
 unfold Gy at h;rw[Z8,Z8]at h;exact⟨h.1.1,YZ h.1.2,YZ h.2⟩
theorem uh:sK.all Gy=true:=by kernel_rfl
theorem ug (r:Int) (h0:0<=r) (h1:r<14):j4 (λd=>bM sK r=some d) (λd=>Vl d):=by
 obtain⟨d,h,m⟩:=bV (xs:=sK) h0 h1;exact⟨d,h,ng (all_eq_true.mp uh d m)⟩
theorem oO (n:Nat) (bZ:Int):j4 (λd=>cF P (n+1) false 12 [.fz (.int bZ)]=some (.ok (.fz d),[])) (λd=>Vl d):=by
 by_cases q:bZ.fmod 16=14
 .have hf:=fm (bZ.fdiv 16) 1999999999999999999 (by decide)
  exact⟨.int ((bZ.fdiv 16).fmod 1999999999999999999-1000000000000000000+1),by exact aM [.b 1 (show au Cm.eq (int (bZ.fmod (16:Int))) (int (14:Int))=some true by simp only[q,el,Y2])] rfl,.int (Li [(bZ.fdiv (16:Int)).fmod (1999999999999999999:Int)] (.i (.p 1 (.g (.c 1000000000000000000))) (.p 1 (.s .x (.c 1000000000000000000)))) [Gi (.c 0) .x] rfl hf.1) (Li [(bZ.fdiv (16:Int)).fmod (1999999999999999999:Int)] (.i (.p 1 (.p 1 (.s .x (.c 1000000000000000000)))) (.c 1000000000000000000)) [Gi (.p 1 .x) (.c 1999999999999999999)] rfl hf.2)⟩
 .by_cases q2:bZ.fmod 16=15
  .have hf:=fm (bZ.fdiv 16) 9 (by decide)
   have ht: -1000000000<=(bZ.fdiv 16).fmod 9/\(bZ.fdiv 16).fmod 9<=(Sz:Nat):=⟨by exact(Li [(bZ.fdiv (16:Int)).fmod (9:Int)] (.i (.g (.c 1000000000)) .x) [Gi (.c 0) .x] rfl hf.1),by show(bZ.fdiv 16).fmod 9<=16777216;exact(Li [(bZ.fdiv (16:Int)).fmod (9:Int)] (.i .x (.c 16777216)) [Gi (.p 1 .x) (.c 9)] rfl hf.2)⟩
   obtain⟨rs,Q⟩:=Df n bZ (.own (.list sK)) (List.range ((bZ.fdiv 16).fmod 9).toNat) .no λk hk=>by have:=mem_range.mp hk;exact(bC [k,((bZ.fdiv (16:Int)).fmod (9:Int)).toNat] [(bZ.fdiv (16:Int)).fmod (9:Int)] 1 (.w (.p 1 .x) (.c 20)) [Gi (.p 1 .x) (.c 9),Gl (.p 1 .x) .y,Gj (.n .y) .x] rfl hf.2 this (ZS (a:=(bZ.fdiv (16:Int)).fmod (9:Int)) (hf.1)))
   exact⟨.tuple rs,by exact aM [.b 1 (show au Cm.eq (int (bZ.fmod (16:Int))) (int (14:Int))=some false by simp only[q2,el,Int.reduceEq,Y3]),.b 2 (show au Cm.eq (int (bZ.fmod (16:Int))) (int (15:Int))=some true by simp only[q2,el,Y2]),.l 3 (show bG iN.range [int ((bZ.fdiv (16:Int)).fmod (9:Int))]=some (fO (0:Int) ((bZ.fdiv (16:Int)).fmod (9:Int)).toNat) by simp only[cJ,reduceNeg,ht,and_self,if_true]),.cp 0 (Q.1)] rfl,.smalls Q.2.2 (by refine Er Q.2.1 (Er ZE ?_);exact(bC [((bZ.fdiv (16:Int)).fmod (9:Int)).toNat] [(bZ.fdiv (16:Int)).fmod (9:Int)] 1 (.w .x (.c 49)) [Gi (.p 1 .x) (.c 9),Gj (.n .x) .x] rfl hf.2 (ZS (a:=(bZ.fdiv (16:Int)).fmod (9:Int)) (hf.1))))⟩
  .obtain⟨d,hd,hv⟩:=ug (bZ.fmod 16) (fm bZ 16 (by decide)).1 (Or.elim (Int.lt_or_gt_of_ne q) (λrr=>rr) (λrr=>(Or.elim (Int.lt_or_gt_of_ne q2) (λEs=>(bC [] [bZ.fmod (16:Int)] 0 (.i (.p 1 .x) (.c 14)) [Gi (.p 1 (.c 14)) .x,Gi (.p 1 .x) (.c 15)] rfl rr Es)) (λEs=>(bC [] [bZ.fmod (16:Int)] 0 (.i (.p 1 .x) (.c 14)) [Gi (.p 1 .x) (.c 16),Gi (.p 1 (.c 15)) .x] rfl ((fm bZ 16 (by decide))).2 Es)))))
   exact⟨d,by exact aM [.b 1 (show au Cm.eq (int (bZ.fmod (16:Int))) (int (14:Int))=some false by simp only[el,q,Y3]),.b 2 (show au Cm.eq (int (bZ.fmod (16:Int))) (int (15:Int))=some false by simp only[el,q2,Y3]),.d 2 hd] rfl,hv⟩
noncomputable abbrev gH:Str:=⟨[112,108,117,115].toArray⟩
noncomputable abbrev eZ:Str:=⟨[109,105,110,117,115].toArray⟩
noncomputable abbrev eY:Str:=⟨[116,105,109,101,115].toArray⟩
noncomputable abbrev fU:Str:=⟨[111,118,101,114].toArray⟩
noncomputable abbrev gI:Str:=⟨[108,101,115,115].toArray⟩
noncomputable abbrev fT:Str:=⟨[115,97,109,101].toArray⟩
noncomputable abbrev gJ:Str:=⟨[106,111,105,110].toArray⟩
noncomputable abbrev eJ:Str:=⟨[100,111,119,110].toArray⟩
noncomputable abbrev cM:Str:=⟨[102,105,114,115,116].toArray⟩
noncomputable abbrev fi:Str:=⟨[114,101,115,116].toArray⟩
noncomputable abbrev bA:Str:=⟨[101,109,112,116,121].toArray⟩
noncomputable abbrev bh:Str:=⟨[108,105,115,116].toArray⟩
noncomputable abbrev gp:Str:=⟨[105,102].toArray⟩
noncomputable abbrev kU:Str:=⟨[114,101,102,117,115,101].toArray⟩
noncomputable abbrev sY:Str:=⟨[118,97,108,117,101].toArray⟩
noncomputable abbrev xo:Str:=⟨[110,97,109,101].toArray⟩
noncomputable abbrev iY:Str:=⟨[100,111].toArray⟩
noncomputable abbrev cv:Str:=⟨[99,97,108,108].toArray⟩
noncomputable abbrev jv:List Str:=[gH,eZ,eY,fU,gI,fT,gJ]
noncomputable abbrev lW:List Str:=[eJ,cM,fi,bA]
noncomputable abbrev iy:List Str:=[⟨[78,111,78,117,109,98,101,114].toArray⟩,⟨[78,111,76,105,115,116].toArray⟩,⟨[78,111,70,105,114,115,116].toArray⟩,⟨[78,111,68,111,119,110].toArray⟩,⟨[66,121,78,111,117,103,104,116].toArray⟩,⟨[84,111,111,71,114,101,97,116].toArray⟩]
noncomputable abbrev kR:List Nat:=[97,98,99,100,101,102,103,104,105,106,107,108,109,110,111,112,113,114,115,116,117,118,119,120,121,122]
noncomputable abbrev figuresN:List Nat:=[48,49,50,51,52,53,54,55,56,57]
noncomputable def eh (x:Str) (l:List Str):Bool:=l.any λy=>decide (y=x)
theorem bY:eh x l=true↔x∈l:=by
 unfold eh;rw[any_eq_true];exact⟨λ⟨y,hy,h⟩=>YZ h▸hy,λh=>⟨x,h,Y5 rfl⟩⟩
theorem su (x:Str):∀l:List Str,iq (.str x) (l.map .str)=some (eh x l):=by
 intro l
 induction l with
 |nil=>exact rfl
 |cons y l ih=>
  show(match og (.str y) (.str x) with|none=>none|some b=>match iq (.str x) (l.map .str) with|none=>none|some c=>some (b||c))=_
  rw[e_strD,ih];rfl
theorem tc (x:Str) (l:List Str):Ii (.str x) (.tuple (l.map .str))=some (eh x l):=by
 show(if noDict (.str x)=true then iq (.str x) (l.map .str) else none)=_
 rw[Y0 (show noDict (.str x)=true from rfl),su]
theorem Ig (x:Str):Ii (.str x) jF=some (eh x lW):=tc x lW
noncomputable def gq (x:Str):Bool:=eh x jv||(eh x lW||decide (x=bh))
noncomputable def bD (x:Str) (m:Int):Bool:=if x=bh then decide (m<=8) else m==(if eh x jv=true then 2 else 1)
noncomputable def B5 (c:Nat):Bool:=kR.contains c||figuresN.contains c
noncomputable def Cp (x:Str):Bool:=match x.cps.toList with
 |c::_=>kR.contains c
 |[]=>false
noncomputable def kX (x:Str):Bool:=decide (1<=x.cps.size)&&(decide (x.cps.size<=8)&&(Cp x&&(!gq x&&(!decide (x=gp)&&(!decide (x=kU)&&x.cps.toList.all B5)))))
inductive T where
 |val (d:D)|nam (x:Str)|ref (x:Str)|iff (ps:List T)|doo (op:Str) (ps:List T)|call (f:Str) (ps:List T)|odd (b:Bool)
mutual
noncomputable def bz:T->D
 |.val d=>.tuple [.str sY,d]
 |.nam x=>.tuple [.str xo,.str x]
 |.ref x=>.tuple [.str kU,.str x]
 |.iff ps=>.tuple (.str gp::bu ps)
 |.doo op ps=>.tuple [.str iY,.str op,.tuple (bu ps)]
 |.call f ps=>.tuple [.str cv,.str f,.tuple (bu ps)]
 |.odd true=>.tuple [.str sY,.int 1,.int 1]
 |.odd false=>.tuple [.str ⟨[115,116,111,112].toArray⟩,.int 1]
noncomputable def bu:List T->List D
 |[]=>[]
 |t::ts=>bz t::bu ts
end
theorem jc (ts:List T):bu ts=ts.map bz:=by
 induction ts with
 |nil=>rfl
 |cons t ts ih=>show bz t::bu ts=_;rw[ih];rfl
mutual
noncomputable def Km:T->Nat
 |.val d=>dep d
 |.iff ps=>u2 ps
 |.doo _ ps=>u2 ps
 |.call _ ps=>u2 ps
 |_=>0
noncomputable def u2:List T->Nat
 |[]=>0
 |t::ts=>max (Km t) (u2 ts)
end
noncomputable def cnt (cs:List (Str×Nat)) (f:Str):Option Nat:=(cs.find? λp=>decide (p.1=f)).map (·.2)
noncomputable abbrev d4 (l:List Str):D:=.tuple (l.map .str)
noncomputable def gz (ns:List Str) (cs:List (Str×Nat)):Nat->T->Bool
 |0,_=>false
 |r+1,t=>match t with
  |.val d=>dF d&&decide (wt d<=50)
  |.nam x=>eh x ns
  |.ref x=>eh x iy
  |.iff ps=>decide (ps.length=3)&&ps.all (gz ns cs r)
  |.doo op ps=>gq op&&(bD op ps.length&&ps.all (gz ns cs r))
  |.call f ps=>decide (cnt cs f=some ps.length)&&ps.all (gz ns cs r)
  |.odd _=>false
theorem o4 (d:D) (ds:List D):vS (.tuple (d::ds)) (.int 1) .none=some (.fz (.tuple ds)):=by show(if (1:Int)=1 then some (Rv.fz (.tuple ds)) else none)=_;exact Y0 rfl
theorem NG (k:Nat):((((k+1:Nat):Int))==0)=false:=by
 have:¬(((k+1:Nat):Int)=0):=by exact(λKW=>(Lf [k] [Gj (.n (.p 1 .x)) (.c 0)] rfl KW))
 simpa using this
theorem GC (a:D) (l:List D):((((a::l).length:Nat):Int)==0)=false:=by
 have:¬(((a::l).length:Int)=0):=by rw[ZH];exact(λKV=>(Lf [l.length] [Gj (.n (.p 1 .x)) (.c 0)] rfl KV))
 simpa using this
theorem dq (ts:List T):(bu ts).length=ts.length:=by rw[jc,ZG]
noncomputable abbrev GA (b:Bool):Option (Except Str Rv×List Mv.Slot):=some (.ok (.fz (.bool b)),[])
noncomputable abbrev ey:=Str×List Str×T
noncomputable abbrev fG (f:ey):D:=.tuple [.str f.1,d4 f.2.1,bz f.2.2]
noncomputable abbrev fF (p:List ey):D:=.tuple (p.map fG)
noncomputable abbrev ct (f:ey):Str×Nat:=(f.1,f.2.1.length)
theorem Eo:l.reverse.Nodup↔l.Nodup:=by
 unfold Nodup;rw[List.pairwise_reverse];exact⟨λh=>h.imp λq e=>q e.symm,λh=>h.imp λq e=>q e.symm⟩
set_option tactic.hygienic true in
theorem rZ (h:bP l.reverse=l.length):l.Nodup:=by
 suffices H:∀l:List Str,bP l=l.length->l.Nodup by
  have:=H l.reverse (by rw[ZD];exact h);exact(Eo.mp this)
 intro l
 induction l with
 |nil=>intro _;exact List.nodup_nil
 |cons x l ih=>
  intro h;have y5:bP l<=l.length:=by
   clear ih h
   induction l with
   |nil=>exact Zi _
   |cons y l ih=>show(if l.contains y then bP l else bP l+1)<=l.length+1;split<;>(first|exact(L1 [bP l,l.length] .x (.p 1 .y) .x .y rfl ih)|exact(L1 [bP l,l.length] (.p 1 .x) (.p 1 .y) .x .y rfl ih))
  have h:(if l.contains x then bP l else bP l+1)=l.length+1:=h
  split at h
  .exact(False.elim (Lf [bP l,l.length] [Gl .x .y,Gf .x (.p 1 .y)] rfl y5 h))
  .rename_i q
   exact nodup_cons.mpr ⟨λm=>q (contains_iff_mem.mpr m),ih (by exact(Zk y5 (Ln [l.length,bP l] (.w .x .y) [Gf (.p 1 .y) (.p 1 .x)] rfl h)))⟩
theorem nA {α:Type} (n:Int) (xs:List α):(rep n xs).length=xs.length*n.toNat:=by
 unfold rep;rw[List.length_flatten];simp[mul_comm]
theorem eX (n:Nat) (p:Int):∃q:Int,cF P (n+1) false 11 [.fz (.int p)]=some (.ok (.fz (.int q)),[]):=by
 have h:=fm (p*48271+11) 2147483647 (by decide);have m1:=wU (a:=p) (b:=48271) (by decide);have m2:=gF (a:=(p*48271+11).fmod 2147483647) (b:=(p*48271+11).fmod 2147483647) (by exact(bC [((p*(48271:Int)+(11:Int)).fmod (2147483647:Int)).natAbs] [(p*(48271:Int)+(11:Int)).fmod (2147483647:Int)] 1 (.w (.p 1 .x) (.c 18446744073709551616)) [Gi (.p 1 .x) (.c 2147483647),Gj (.n .x) .x] rfl h.2 (ZW (a:=(p*(48271:Int)+(11:Int)).fmod (2147483647:Int)) (h.1))));exact⟨((p*(48271:Int)+(11:Int)).fmod (2147483647:Int)*(p*(48271:Int)+(11:Int)).fmod (2147483647:Int)).fmod (2147483629:Int),aM [.v 0 m1,.v 2 m2] rfl⟩
noncomputable abbrev ek:Str:=⟨[116,111,112].toArray⟩
noncomputable abbrev yP (x:Str):Str:=⟨x.cps ++ #[122]⟩
structure hS (l:List Str):Prop where
 len:l.length=12
 nd:l.Nodup
 nm:∀x∈l,kX x=true
 zz:ek∉l
 az:∀x∈l,yP x∉l
noncomputable def rn (l:List Str):Bool:=decide (l.length=12)&&(decide (bP l.reverse=l.length)&&(l.all kX&&(!eh ek l&&l.all λx=>!eh (yP x) l)))
theorem ux (h:rn l=true):hS l:=by
 unfold rn at h;simp only[Z8,Y4,ZQ,not_eq_true']at h;obtain⟨h1,h2,h3,h4,h5⟩:=h;exact⟨h1,rZ h2,h3,λm=>(by rw[bY.mpr m]at h4;cases h4),λx hx m=>(by have:=h5 x hx;rw[bY.mpr m]at this;cases this)⟩
noncomputable abbrev oY:List Str:=[⟨[105,102,115].toArray⟩,⟨[108,105,115,116,120].toArray⟩,⟨[112,108,117,115,50].toArray⟩,⟨[114,101,102,117,115,101,115].toArray⟩,⟨[114,101,115,116,101,100].toArray⟩,⟨[100,111,119,110,115].toArray⟩,⟨[115,97,109,101,49].toArray⟩,⟨[106,111,105,110,115].toArray⟩,⟨[111,118,101,114,115].toArray⟩,⟨[102,105,114,115,116,115].toArray⟩,⟨[101,109,112,116,121,120].toArray⟩,⟨[97,57].toArray⟩]
noncomputable def J0 (r:Nat):List Str:=(List.range 12).map λk=>oY.getD ((r+k) % 12) ⟨#[]⟩
theorem KI:((List.range 12).all λr=>rn (J0 r))=true:=by kernel_rfl
theorem D6 (r:Nat) (h:r<12):hS (J0 r):=ux (all_eq_true.mp KI r (mem_range.mpr h))
theorem pU (a:Int) (k N:Nat) (h:0<N):(a+(0+(k:Int))).fmod N=((((a.fmod N).toNat+k) % N:Nat):Int):=by
 rw[Int.fmod_eq_emod_of_nonneg _ (ZU N),Int.fmod_eq_emod_of_nonneg _ (ZU N),ZR,Int.natCast_emod,ZV,ZS (Int.emod_nonneg _ (Int.natCast_ne_zero.mpr (Nat.pos_iff_ne_zero.mp h))),Int.emod_add_emod]
theorem pb (n:Nat) (c:Int) (a1 a2 a3 a4 a5 a6:Slot) (hs:a1 = .own (.list (oY.map .str))\/a1 = .fz (.list (oY.map .str))):∀(ks:List Nat) (s7:Slot), ∃fr,bH ⟨P.glob,cF P n,[],false⟩ [.fz (.int c),a1,a2,a3,a4,a5,a6,s7] (.idx (af 1) (.op2 .mod (.op2 .add (.op2 .fdiv (af 0) (aj 9)) (af 7)) (aj 12))) (.one 7) [] (ks.map λ(k:Nat)=>.int (0+k))=some (.ok ((ks.map λk=>oY.getD ((((c.fdiv 9).fmod 12).toNat+k) % 12) ⟨#[]⟩).map .str),fr)
 |[]=>@λs7=>⟨_,by rw[Zy,cP];rfl⟩
 |k::ks=>@λs7=>by
  refine aX (pb n c (.fz (.list (oY.map .str))) a2 a3 a4 a5 a6 (.inr rfl) ks (.fz (.int (0+k)))) λfr ih=>?_
  have hm:=fm (c.fdiv 9) 12 (by decide);have hx:bM (oY.map str) ((c.fdiv 9+(0+(k:Int))).fmod 12)=some (.str (oY.getD ((((c.fdiv 9).fmod 12).toNat+k) % 12) ⟨#[]⟩)):=by
   refine Er (pU (c.fdiv 9) k 12 (by decide)) ?_;unfold bM;rw[Y0 (ZU _),ZT,ZJ];refine Er (ZN) ?_;refine Er (ZK (by exact(mod_lt _ (by decide)))) ?_
   rfl
  refine⟨fr,?_⟩;refine Er Zz ?_;rw[Zz];refine Er Zz ?_
  rcases hs with rfl|rfl<;>exact y4 [.d 3 hx,.cp 0 ih] rfl
noncomputable abbrev ku:List Nat:=[97,98,99,100,101,102,103,104,105,106,107,108,109,110,111,112,113,114,115,116,117,118,119,120,121,122,48,49,50,51,52,53,54,55,56,57]
noncomputable def sg (p r:Int) (d:Nat):Str:=⟨(rep p [109]).toArray ++ #[d]++(rep r [109]).toArray⟩
noncomputable def big (p r N:Nat):List Str:=(ku.take N).map (sg p r)
theorem Br (a b:Str):decide (a=b)=(a.cps.toList==b.cps.toList):=Y9 ((e_strD a b).symm.trans rfl)
noncomputable def Nb (L:List Nat):Bool:=match L with
 |c::_=>kR.contains c
 |[]=>false
noncomputable def wM (L:List Nat):Bool:=decide (1<=L.length)&&(decide (L.length<=8)&&(Nb L&&(!((jv.any λy=>y.cps.toList==L)||((lW.any λy=>y.cps.toList==L)||(L==bh.cps.toList)))&&(!(L==gp.cps.toList)&&(!(L==kU.cps.toList)&&L.all B5)))))
theorem xu (x:Str):kX x=wM x.cps.toList:=by
 unfold kX gq eh wM;rw[show Cp x=Nb x.cps.toList from rfl];simp only[Br,length_toList]
noncomputable def sl (p r d:Nat):List Nat:=replicate p 109++d::replicate r 109
theorem j5 (p r d:Nat):(sg p r d).cps.toList=sl p r d:=by
 have e:∀n:Nat,rep (n:Int) [109]=replicate n 109:=λn=>by unfold rep;rw[ZT];exact List.flatten_replicate_singleton
 unfold sg sl;rw[e,e];simp
theorem DM {p r d:Nat} (h:sg p r d=sg p r e):d=e:=by
 have h:=Y7 (λx:Str=>x.cps.toList) h;simp only[j5]at h;exact(List.cons.inj (List.append_cancel_left h)).1
noncomputable def FX (p r N:Nat):Bool:=(ku.take N).all λd=>wM (sl p r d) && !(sl p r d==[116,111,112])
theorem Me:((List.range 8).all λs=>(List.range (s+1)).all λp=>FX p (s-p) (if p=0 then 26 else 36))=true:=by kernel_rfl
theorem DL:ku.Nodup:=by decide +kernel
theorem BK {p r N:Nat} (h:N<=36):(big p r N).length=N:=by
 unfold big;rw[ZG,length_take];exact min_eq_left h
theorem Do {p r N t:Nat} (hN:N=26\/N=36) (h:FX p r N=true):hS ((List.range 12).map λk=>sg p r (ku.getD ((t+k) % N) 0)):=by
 unfold FX at h;simp only[Z8,ZQ,not_eq_true']at h;have h2:∀x∈big p r N,kX x=true:=λx hx=>by
  obtain⟨d,hd,rfl⟩:=mem_map.mp hx;rw[xu,j5];exact(h d hd).1
 have h3:eh ek (big p r N)=false:=by
  rw[Bool.eq_false_iff];intro m;obtain⟨d,hd,e⟩:=mem_map.mp (bY.mp m);have e:=Y7 (λx:Str=>x.cps.toList) e;simp only[j5]at e;have:=(h d hd).2;rw[e]at this;exact absurd this (by decide)
 have h4:∀x∈big p r N,x.cps.size=p+r+1:=λx hx=>by
  refine aX (mem_map.mp hx) λd Z=>?_;refine Er Z.2.symm ?_
  refine Er length_toList.symm ?_;rw[j5];unfold sl;simp;exact(Zk (L0 [p,r] (.a .x (.p 1 .y)) (.p 1 (.a .x .y)) rfl) (L0 [p,r] (.p 1 (.a .x .y)) (.a .x (.p 1 .y)) rfl))
 have hl:(big p r N).length=N:=BK (Or.elim hN (λjN=>(Ln [N] (.w .x (.c 36)) [Ge .x (.c 26)] rfl jN)) (λjN=>(Ln [N] (.w .x (.c 36)) [Ge .x (.c 36)] rfl jN)));have hg:∀i,i<N->(big p r N)[i]? = some (sg p r (ku.getD i 0)):=λi hi=>by
  have LG:i<ku.length:=Ze hi (by rcases hN with rfl|rfl<;>decide);unfold big;refine Er (ZJ) (Er (List.getElem?_take_of_lt hi) (Er (ZN) (Er (ZK LG) ?_)))
  rfl
 have hm:∀x,x∈((List.range 12).map λk=>sg p r (ku.getD ((t+k) % N) 0))->x∈big p r N:=λx hx=>by
  refine aX (mem_map.mp hx) λk Q=>?_;refine Er Q.2.symm ?_
  exact Zs (hg _ (mod_lt _ (Or.elim hN (λwR=>(Ln [N] (.w (.p 1 (.c 0)) .x) [Gf .x (.c 26)] rfl wR)) (λwR=>(Ln [N] (.w (.p 1 (.c 0)) .x) [Gf .x (.c 36)] rfl wR)))))
 refine⟨by simp,?_,λx hx=>h2 x (hm x hx),λhx=>(by have h3:=(bY.mpr (hm _ hx))▸h3;cases h3),λx hx hy=>?_⟩
 .refine pairwise_map.mpr (Pairwise.imp_of_mem ?_ List.pairwise_lt_range)
  intro a b ha hb LP e;have ha:=mem_range.mp ha;have hb:=mem_range.mp hb;have i1:(t+a) % N<N:=mod_lt _ (Or.elim hN (λwO=>(Ln [N] (.w (.p 1 (.c 0)) .x) [Gf .x (.c 26)] rfl wO)) (λwO=>(Ln [N] (.w (.p 1 (.c 0)) .x) [Gf .x (.c 36)] rfl wO)));have i2:(t+b) % N<N:=mod_lt _ (L1 [N,(t+a) % N] (.p 1 (.c 0)) .x (.p 1 .y) .x rfl i1);have df:(t+a) % N≠(t+b) % N:=by rcases hN with rfl|rfl<;>omega
  have g1:=hg _ i1;have g2:=hg _ i2;rw[<- hl]at i1 i2;rw[hl]at i1 i2;have q:=List.pairwise_iff_getElem.mp (pairwise_map.mpr (((List.take_sublist N ku).nodup DL).imp λdf e=>df (DM e)):(big p r N).Nodup);have e1:(big p r N)[(t+a) % N]'(Ln [(t+a) % N,(big p r N).length,N] (.w (.p 1 .x) .y) [Gf .y .z,Gl (.p 1 .x) .z] rfl hl i1)=sg p r (ku.getD ((t+a) % N) 0):=by
   have:=ZK (l:=big p r N) (i:=(t+a) % N) (Ln [(t+a) % N,(big p r N).length,N] (.w (.p 1 .x) .y) [Gf .y .z,Gl (.p 1 .x) .z] rfl hl i1);rw[this]at g1;exact Y9 g1
  have e2:(big p r N)[(t+b) % N]'(Ln [(t+b) % N,(big p r N).length,N] (.w (.p 1 .x) .y) [Gf .y .z,Gl (.p 1 .x) .z] rfl hl i2)=sg p r (ku.getD ((t+b) % N) 0):=by
   have:=ZK (l:=big p r N) (i:=(t+b) % N) (Ln [(t+b) % N,(big p r N).length,N] (.w (.p 1 .x) .y) [Gf .y .z,Gl (.p 1 .x) .z] rfl hl i2);rw[this]at g2;exact Y9 g2
  rcases Nat.lt_or_gt_of_ne df with uI|uI
  .exact q _ _ (by exact(Ln [(t+a) % N,(big p r N).length,N] (.w (.p 1 .x) .y) [Gf .y .z,Gl (.p 1 .x) .z] rfl hl i1)) (by exact(Ln [(t+b) % N,(big p r N).length,N] (.w (.p 1 .x) .y) [Gf .y .z,Gl (.p 1 .x) .z] rfl hl i2)) uI (by refine Er e1 (Er e2 ?_);exact e)
  .exact q _ _ (by exact(Ln [(t+b) % N,(big p r N).length,N] (.w (.p 1 .x) .y) [Gf .y .z,Gl (.p 1 .x) .z] rfl hl i2)) (by exact(Ln [(t+a) % N,(big p r N).length,N] (.w (.p 1 .x) .y) [Gf .y .z,Gl (.p 1 .x) .z] rfl hl i1)) uI (by refine Er e1 (Er e2 ?_);exact e.symm)
 .have s1:=h4 _ (hm _ hx)
  have:(yP x).cps.size=x.cps.size+1:=by unfold yP;refine Er size_append ?_;rfl
  exact(Lf [x.cps.size,p,r,(yP x).cps.size] [Gf .x (.p 1 (.a .y .z)),Ge .u (.p 1 (.a .y .z)),Gf .u (.p 1 .x)] rfl s1 (h4 _ (hm _ hy)) this)
noncomputable abbrev NK:List St:=[.asg (.one 6) (.idx (af 1) (.op2 .mod (.op2 .add (.op2 .fdiv (af 0) (aj 64)) (af 5)) (.idx (.list [aj 26,aj 36]) (.bi .int [.cmp .gt (af 3) (aj 0)])))),
   .app (.var 4) (.op2 .add (.op2 .add (.op2 .mul (.lit (S [109])) (af 3)) (af 6)) (.op2 .mul (.lit (S [109])) (.op2 .sub (.op2 .sub (af 2) (aj 1)) (af 3))))]
theorem zM (n:Nat) (c:Int) (z p N:Nat) (hz:1<=z/\z<=8) (hp:p<z) (hN:N=if p=0 then 26 else 36) (a7:Slot):∀(ks:List Nat) (acc:List Str) (s5 s6:Slot),acc.length+ks.length<=100->cU ⟨P.glob,cF P n,[],false⟩ [.fz (.int c),.fz (.str ⟨ku.toArray⟩),.fz (.int z),.fz (.int p),.own (.list (acc.map .str)),s5,s6,a7] (.one 5) NK [5,6] (ks.map λ(k:Nat)=>.int (0+k))=some (.ok .next,[.fz (.int c),.fz (.str ⟨ku.toArray⟩),.fz (.int z),.fz (.int p),.own (.list ((acc++ks.map λk=>sg p ((z-1-p:Nat):Int) (ku.getD ((((c.fdiv 64).fmod N).toNat+k) % N) 0)).map .str)),.no,.no,a7]):=by
 intro ks
 induction ks with
 |nil=>exact @λacc s5 s6 aa=>by refine Er Zy ?_;rw[bN,Zy,ZO];rfl
 |cons k ks IH=>
  intro acc s5 s6 hl;have ih:=IH (acc++[sg p ((z-1-p:Nat):Int) (ku.getD ((((c.fdiv 64).fmod N).toNat+k) % N) 0)]);have Ki:N=26\/N=36:=by refine Er hN ?_;by_cases q:p=0<;>simp[q]
  have hx:bM ku ((c.fdiv 64+(0+(k:Int))).fmod N)=some (ku.getD ((((c.fdiv 64).fmod N).toNat+k) % N) 0):=by
   have e:(c.fdiv 64+(0+(k:Int))).fmod N=(((((c.fdiv 64).fmod N).toNat+k) % N:Nat):Int):=pU (c.fdiv 64) k N (by rcases Ki with rfl|rfl<;>decide);have uI:(((c.fdiv 64).fmod N).toNat+k) % N<ku.length:=Ze (mod_lt _ (by rcases Ki with rfl|rfl<;>decide)) (by rcases Ki with rfl|rfl<;>decide);refine Er e ?_;unfold bM;refine Er (Y0 (ZU _)) ?_;rw[ZT,ZN];refine Er (ZK uI) ?_
   rfl
  have hi:bM [int 26,.int 36] (if decide (0<(p:Int))=true then 1 else 0)=some (.int N):=by
   refine Er hN ?_
   by_cases q:p=0
   .subst q;rfl
   .refine Er (Y1 q) (Er (Y0 (Y5 ((Or.elim (Nat.lt_or_gt_of_ne q) (λwP=>(bC [p] [] 0 (.i (.p 1 (.c 0)) (.n .x)) [Gl (.p 1 .x) (.c 0)] rfl wP)) (λwP=>(Ln [p] (.i (.p 1 (.c 0)) (.n .x)) [Gl (.p 1 (.c 0)) .x] rfl wP))):0<(p:Int)))) ?_);rfl
  have n0:¬((N:Int)=0):=by rcases Ki with rfl|rfl<;>decide
  have uF:nX (.str ⟨ku.toArray⟩) (.int ((c.fdiv 64+(0+(k:Int))).fmod N))=some (.str ⟨#[ku.getD ((((c.fdiv 64).fmod N).toNat+k) % N) 0]⟩):=by
   show(bM ku _).map _=_
   refine Er hx ?_;rfl
  have e1:∀k:Int,0<=k->k<=10->op2 .mul (.str ⟨#[109]⟩) (.int k)=some (.fz (.str ⟨(rep k [109]).toArray⟩)):=λk h0 h1=>(Ek _ _).trans (Y0 ⟨by exact(Li [k] (.i (.g (.c 1000000000)) .x) [Gi (.c 0) .x] rfl h0),by exact(Li [k] (.i .x (.c 1000000000)) [Gi .x (.c 10)] rfl h1),by show 1*k.toNat<=16777216;exact(bC [k.toNat] [k] 1 (.w (.m 1 .x) (.c 16777216)) [Gi .x (.c 10),Gj (.n .x) .x] rfl h1 (ZS (a:=k) h0))⟩)
  have l1:∀k:Int,k<=10->(rep k [109]).length<=10:=λk h=>by rw[nA];show 1*k.toNat<=10;omega
  have a2:=e1 ((z:Int)-1-p) (Ln [z,p] (.i (.c 0) (.s (.s (.n .x) (.c 1)) (.n .y))) [Gl (.p 1 .y) .x] rfl hp) (Ln [z,p] (.i (.s (.s (.n .x) (.c 1)) (.n .y)) (.c 10)) [Gl .x (.c 8)] rfl hz.2);have ez:((z:Int)-1-p)=((z-1-p:Nat):Int):=by exact(ZX (Ln [z,p,z-1-p,z-1] (.i (.s (.s (.n .x) (.c 1)) (.n .y)) (.n .z)) [Gf (.a .z .y) .u,Gf (.p 1 .u) .x] rfl (Zd (n:=z-(1:Nat)) (m:=p) (Ln [p,z-1,z] (.w .x .y) [Gl (.p 1 .x) .z,Gf (.p 1 .y) .z] rfl hp (Zd (n:=z) (m:=1) (hz.1)))) (Zd (n:=z) (m:=1) (hz.1))) (Ln [z-1-p,z,p,z-1] (.i (.n .x) (.s (.s (.n .y) (.c 1)) (.n .z))) [Ge (.a .x .z) .u,Ge (.p 1 .u) .y] rfl (Zd (n:=z-(1:Nat)) (m:=p) (Ln [p,z-1,z] (.w .x .y) [Gl (.p 1 .x) .z,Gf (.p 1 .y) .z] rfl hp (Zd (n:=z) (m:=1) (hz.1)))) (Zd (n:=z) (m:=1) (hz.1))))
  rw[show rep ((z:Int)-1-p) [109]=rep ((z-1-p:Nat):Int) [109] by exact Er ez rfl]at a2;simp only[Zz];generalize ku.getD ((((c.fdiv 64).fmod N).toNat+k) % N) 0=d at uF ih ⊢;have a3:op2 .add (.str ⟨(rep (p:Int) [109]).toArray⟩) (.str ⟨#[d]⟩)=some (.fz (.str ⟨(rep (p:Int) [109]).toArray ++ #[d]⟩)):=(wz _ _).trans (Y0 (by refine Er Zo ?_;show _+1<=16777216;exact(L1 [(rep (↑p:Int) [109]).length] (.p 1 .x) (.c 16777216) .x (.c 10) rfl (l1 (p:Int) (Ln [p,z] (.i (.n .x) (.c 10)) [Gl .y (.c 8),Gl (.p 1 .x) .y] rfl hz.2 hp)))));have a4:op2 .add (.str ⟨(rep (p:Int) [109]).toArray ++ #[d]⟩) (.str ⟨(rep ((z-1-p:Nat):Int) [109]).toArray⟩)=some (.fz (.str (sg p ((z-1-p:Nat):Int) d))):=(wz _ _).trans (Y0 (by show((rep (p:Int) [109]).toArray ++ #[d]).size+((rep ((z-1-p:Nat):Int) [109]).toArray).size<=16777216;refine Er size_append (Er Zo (Er Zo (Er Zo ?_)));show _+1+_<=16777216;exact(Ln [(rep (↑p:Int) [109]).length,(rep (↑(z-1-p):Int) [109]).length] (.w (.a (.p 1 .x) .y) (.c 16777216)) [Gl .x (.c 10),Gl .y (.c 10)] rfl (l1 (p:Int) (Ln [p,z] (.i (.n .x) (.c 10)) [Gl .y (.c 8),Gl (.p 1 .x) .y] rfl hz.2 hp)) (l1 ((z-1-p:Nat):Int) (Ln [z-1-p,z,p,z-1] (.i (.n .x) (.c 10)) [Gl .y (.c 8),Ge (.a .x .z) .u,Ge (.p 1 .u) .y] rfl hz.2 (Zd (n:=z-(1:Nat)) (m:=p) (Ln [p,z-1,z] (.w .x .y) [Gl (.p 1 .x) .z,Gf (.p 1 .y) .z] rfl hp (Zd (n:=z) (m:=1) (hz.1)))) (Zd (n:=z) (m:=1) (hz.1)))))));have cz:decide ((acc.map str).length<Sz)=true:=Y5 (by rw[ZG];simp only[ZH,Sz]at *;exact(L1 [acc.length,ks.length] (.p 1 .x) (.c 16777216) (.a .x (.p 1 .y)) (.c 100) rfl hl));have ih:=ih (.fz (.int (0+k))) (.fz (.str ⟨#[d]⟩)) (by simp only[ZI,ZH,length_nil]at *;exact(L1 [acc.length,ks.length] (.a (.a .x (.p 1 (.c 0))) .y) (.c 100) (.a .x (.p 1 .y)) (.c 100) rfl hl));rw[ZP,ZB (l₂:=[_])]at ih;exact jW [.b 2 (show au Cm.gt (int (↑p:Int)) (int (0:Int))=some (decide ((0:Int)<(↑p:Int))) by simp only[eR]),.d 1 hi,.v 0 (show op2 lE.mod (int (c.fdiv (64:Int)+((0:Int)+(↑k:Int)))) (int (↑N:Int))=some (Rv.fz (int ((c.fdiv (64:Int)+((0:Int)+(↑k:Int))).fmod (↑N:Int)))) by simp only[gi,n0,if_false]),.d 0 uF,.v 0 ((e1 (p:Int) (Ln [p] (.i (.c 0) (.n .x)) [] rfl) (Ln [p,z] (.i (.n .x) (.c 10)) [Gl .y (.c 8),Gl (.p 1 .x) .y] rfl hz.2 hp))),.v 0 a3,.v 2 a2,.v 0 a4,.t 0 cz,.lp 0 ih] rfl
theorem wL (n:Nat) (c:Int):Gg (λl r=>cF P (n+1) false 23 [.fz (.int c)]=some (.ok r,[])) (λl r=>hS l) (λl r=>(r = .own (.list (l.map .str))\/r = .fz (.list (l.map .str)))):=by
 by_cases q:c.fmod 9=8
 .have Ni:=fm (c.fdiv 9) 12 (by decide)
  exact aX (pb n c (.own (.list (oY.map .str))) .no .no .no .no .no (.inl rfl) (List.range 12) .no) λfr hf=>(⟨J0 ((c.fdiv 9).fmod 12).toNat,.own (.list ((J0 ((c.fdiv 9).fmod 12).toNat).map .str)),by exact aM [.b 1 (show au Cm.eq (int (c.fmod (9:Int))) (int (8:Int))=some true by simp only[q,el,Y2]),.l 2 ((rfl:bG .range [.int 12]=some ((List.range 12).map λ(k:Nat)=>int (0+k)))),.cp 0 hf] rfl,D6 _ (bC [((c.fdiv (9:Int)).fmod (12:Int)).toNat] [(c.fdiv (9:Int)).fmod (12:Int)] 1 (.w (.p 1 .x) (.c 12)) [Gi (.p 1 .x) (.c 12),Gj (.n .x) .x] rfl Ni.2 (ZS (a:=(c.fdiv (9:Int)).fmod (12:Int)) (Ni.1))),.inl rfl⟩)
 .have h8:=fm c 8 (by decide)
  have hp:=fm (c.fdiv 8) (1+c.fmod 8) (Li [c.fmod (8:Int)] (.i (.p 1 (.c 0)) (.a (.c 1) .x)) [Gi (.c 0) .x] rfl h8.1);have Cg:1+c.fmod 8=(((1+c.fmod 8).toNat:Nat):Int):=by exact(ZX (bC [((1:Int)+c.fmod (8:Int)).toNat] [c.fmod (8:Int)] 1 (.i (.a (.c 1) .x) (.n .x)) [Gk (.n .x) (.a (.c 1) .x)] rfl (ZS (a:=(1:Int)+c.fmod (8:Int)) (Li [c.fmod (8:Int)] (.i (.c 0) (.a (.c 1) .x)) [Gi (.c 0) .x] rfl h8.1))) (bC [((1:Int)+c.fmod (8:Int)).toNat] [c.fmod (8:Int)] 1 (.i (.n .x) (.a (.c 1) .x)) [Gj (.n .x) (.a (.c 1) .x)] rfl (ZS (a:=(1:Int)+c.fmod (8:Int)) (Li [c.fmod (8:Int)] (.i (.c 0) (.a (.c 1) .x)) [Gi (.c 0) .x] rfl h8.1))))
  have v1:op2 .add (.int 1) (.int (c.fmod 8))=some (.fz (.int (((1+c.fmod 8).toNat:Nat):Int))):=by refine Er Cg.symm ?_;rfl
  generalize (1+c.fmod 8).toNat=z at Cg v1;have hp:=Cg▸hp;have K3:(c.fdiv 8).fmod z=((((c.fdiv 8).fmod z).toNat:Nat):Int):=by exact(ZX (bC [((c.fdiv (8:Int)).fmod (↑z:Int)).toNat] [(c.fdiv (8:Int)).fmod (↑z:Int)] 1 (.i .x (.n .x)) [Gk (.n .x) .x] rfl (ZS (a:=(c.fdiv (8:Int)).fmod (↑z:Int)) (hp.1))) (bC [((c.fdiv (8:Int)).fmod (↑z:Int)).toNat] [(c.fdiv (8:Int)).fmod (↑z:Int)] 1 (.i (.n .x) .x) [Gj (.n .x) .x] rfl (ZS (a:=(c.fdiv (8:Int)).fmod (↑z:Int)) (hp.1))))
  have v2:op2 .mod (.int (c.fdiv 8)) (.int z)=some (.fz (.int ((((c.fdiv 8).fmod z).toNat:Nat):Int))):=by refine Er K3.symm ?_;rw[gi];exact Er (Y1 (by exact(λHP=>(jY [z] [c.fmod (8:Int)] [Gi (.c 0) .x,Gj (.a (.c 1) .x) (.n .x),Gj (.n .x) (.c 0)] rfl h8.1 Cg HP)))) rfl
  generalize ((c.fdiv 8).fmod z).toNat=p at K3 v2;have hp:=K3▸hp;have lp:=zM n c z p (if p=0 then 26 else 36) (⟨(Ln [z,p] (.w (.c 1) .x) [Gi (.c 0) (.n .y),Gi (.p 1 (.n .y)) (.n .x)] rfl hp.1 hp.2),(bC [z] [c.fmod (8:Int)] 1 (.w .x (.c 8)) [Gi (.p 1 .x) (.c 8),Gk (.a (.c 1) .x) (.n .x)] rfl h8.2 Cg)⟩) (Ln [p,z] (.w (.p 1 .x) .y) [Gi (.p 1 (.n .x)) (.n .y)] rfl hp.2) rfl .no (List.range 12) [] .no .no (by decide);rw[Zy,Zq]at lp;refine⟨(List.range 12).map λk=>sg p ((z-1-p:Nat):Int) (ku.getD ((((c.fdiv 64).fmod (if p=0 then 26 else 36:Nat)).toNat+k) % (if p=0 then 26 else 36)) 0),.fz (.list (((List.range 12).map λk=>sg p ((z-1-p:Nat):Int) (ku.getD ((((c.fdiv 64).fmod (if p=0 then 26 else 36:Nat)).toNat+k) % (if p=0 then 26 else 36)) 0)).map .str)),?_,Do (p:=p) (r:=z-1-p) (N:=if p=0 then 26 else 36) (t:=((c.fdiv 64).fmod (if p=0 then 26 else 36:Nat)).toNat) ?_ ?_,.inr rfl⟩
  .exact aM [.b 1 (show au Cm.eq (int (c.fmod (9:Int))) (int (8:Int))=some false by simp only[el,q,Y3]),.v 2 v1,.v 1 v2,.l 0 ((rfl:bG .range [.int 12]=some ((List.range 12).map λ(k:Nat)=>int (0+k)))),.lp 0 lp] rfl
  .by_cases q:p=0<;>simp[q]
  .exact all_eq_true.mp (all_eq_true.mp Me (z-1) (mem_range.mpr (bC [z-(1:Nat),z] [c.fmod (8:Int)] 1 (.w (.p 1 .x) (.c 8)) [Gi (.p 1 .x) (.c 8),Gk (.a (.c 1) .x) (.n .y),Ge (.p 1 .x) .y] rfl h8.2 Cg (Zd (n:=z) (m:=1) (Ln [z,p] (.w (.c 1) .x) [Gi (.c 0) (.n .y),Gi (.p 1 (.n .y)) (.n .x)] rfl hp.1 hp.2))))) p (mem_range.mpr (Ln [p,z-1,z] (.w (.p 1 .x) (.p 1 .y)) [Gi (.p 1 (.n .x)) (.n .z),Gf (.p 1 .y) .z] rfl hp.2 (Zd (n:=z) (m:=1) (Ln [z,p] (.w (.c 1) .x) [Gi (.c 0) (.n .y),Gi (.p 1 (.n .y)) (.n .x)] rfl hp.1 hp.2))))
structure eS (ns:List Str) (cs:List (Str×Nat)) (d:Nat) (t:T):Prop where
 ok:∀r,d<=r->gz ns cs r t=true
 dp:Km t<=5
theorem eS.mono {d:Nat} {t:T} (h:eS ns cs d t) (hd:d<=e):eS ns cs e t:=⟨λr hr=>h.ok r (by exact(Ln [d,r,e] (.w .x .y) [Gl .x .z,Gl .z .y] rfl hd hr)),h.dp⟩
theorem eS.val (h:Vl d):eS ns cs 1 (.val d):=⟨λr hr=>by
 obtain⟨k,rfl⟩:=ud hr
 show(dF d&&decide (wt d<=50))=true
 rw[h.1,Y5 h.2.2];rfl,h.2.1⟩
theorem eS.nam (h:x∈ns):eS ns cs 1 (.nam x):=⟨λr hr=>by
 obtain⟨k,rfl⟩:=ud hr
 exact bY.mpr h,by show 0<=5;decide⟩
theorem eS.ref (h:x∈iy):eS ns cs 1 (.ref x):=⟨λr hr=>by
 obtain⟨k,rfl⟩:=ud hr
 exact bY.mpr h,by show 0<=5;decide⟩
theorem oj:∀ {ts:List T},(∀t∈ts,Km t<=m)->u2 ts<=m:=by
 intro ts
 induction ts with
 |nil=>exact @λaa=>Zc _
 |cons t ts ih=>
  intro h;have h1:=h t Zt;have h2:=ih (mc h)
  show max (Km t) (u2 ts)<=m
  exact(max_le.mpr ⟨h1,h2⟩)
theorem eS.iff {d:Nat} {ps:List T} (hl:ps.length=3) (h:∀t∈ps,eS ns cs d t):eS ns cs (d+1) (.iff ps):=⟨λr hr=>by
 obtain⟨k,rfl⟩:=ud (L1 [r,d] (.c 1) .x (.p 1 .y) .x rfl hr)
 show(decide (ps.length=3)&&ps.all (gz ns cs k))=true
 refine Er (Y5 hl) ?_;rw[Bool.true_and,ZQ];exact λt ht=>(h t ht).ok k (L1 [d,k] .x .y (.p 1 .x) (.p 1 .y) rfl hr),oj λt ht=>(h t ht).dp⟩
theorem eS.doo {d:Nat} {op:Str} {ps:List T} (ho:gq op=true) (hl:bD op ps.length=true) (h:∀t∈ps,eS ns cs d t):eS ns cs (d+1) (.doo op ps):=⟨λr hr=>by
 obtain⟨k,rfl⟩:=ud (L1 [r,d] (.c 1) .x (.p 1 .y) .x rfl hr)
 show(gq op&&(bD op ps.length&&ps.all (gz ns cs k)))=true
 refine Er ho ?_;refine Er hl ?_;rw[Bool.true_and,Bool.true_and,ZQ];exact λt ht=>(h t ht).ok k (L1 [d,k] .x .y (.p 1 .x) (.p 1 .y) rfl hr),oj λt ht=>(h t ht).dp⟩
theorem eS.call {d:Nat} {ps:List T} (hl:cnt cs f=some ps.length) (h:∀t∈ps,eS ns cs d t):eS ns cs (d+1) (.call f ps):=⟨λr hr=>by
 obtain⟨k,rfl⟩:=ud (L1 [r,d] (.c 1) .x (.p 1 .y) .x rfl hr)
 show(decide (cnt cs f=some ps.length)&&ps.all (gz ns cs k))=true
 refine Er (Y5 hl) ?_;rw[Bool.true_and,ZQ];exact λt ht=>(h t ht).ok k (L1 [d,k] .x .y (.p 1 .x) (.p 1 .y) rfl hr),oj λt ht=>(h t ht).dp⟩
noncomputable abbrev Fh:List D:=[.int 0,.int 1,.int 2,.tuple [],.tuple [.int 1],.tuple [.int 2,.int 0],.tuple [.tuple [],.int 1],.int 3]
noncomputable abbrev Fg:List D:=[.int 3,.int (-1),.tuple [.int 1,.int 2],.int 0]
noncomputable abbrev Ff:List D:=[.tuple [.int 0,.tuple [.int 1,.tuple [.int 2]]],.int (-4),.int 2,.tuple []]
theorem n7:Fh.all Gy=true/\Fg.all Gy=true/\Ff.all Gy=true:=⟨by kernel_rfl,by kernel_rfl,by kernel_rfl⟩
theorem Fe (n:Nat) (p w:Int):j4 (λd=>cF P (n+1) false 24 [.fz (.int p),.fz (.int w)]=some (.ok (.fz d),[])) (λd=>Vl d):=by
 have h4:=fm p 4 (by decide);obtain⟨d0,e0,m0⟩:=bV (xs:=Fh) (fm p 8 (by decide)).1 (fm p 8 (by decide)).2;obtain⟨d1,e1,m1⟩:=bV (xs:=Fg) h4.1 h4.2;obtain⟨d2,e2,m2⟩:=bV (xs:=Ff) h4.1 h4.2;have l8:((Fh.length:Nat):Int)=8:=rfl;have l4:((Fg.length:Nat):Int)=4:=rfl;have O1:((Ff.length:Nat):Int)=4:=rfl
 by_cases q1:w=1
 .subst q1
  refine⟨d1,?_,(ng (all_eq_true.mp n7.2.1 d1 m1))⟩;exact aM [.d 6 e1] rfl
 .have b1:(w==1)=false:=by simpa using q1
  by_cases q2:w=2
  .subst q2
   refine⟨d2,?_,(ng (all_eq_true.mp n7.2.2 d2 m2))⟩;exact aM [.d 6 e2] rfl
  .have b2:(w==2)=false:=by simpa using q2
   refine⟨d0,?_,(ng (all_eq_true.mp n7.1 d0 m0))⟩;exact aM [.b 0 (show au Cm.eq (int w) (int (1:Int))=some false by simp only[gw,dr,b1]),.b 1 (show au Cm.eq (int w) (int (2:Int))=some false by simp only[gw,dr,b2]),.d 3 e0] rfl
theorem Al:∀l:List Str,noDicts (l.map .str)=true:=by
 intro l
 induction l with
 |nil=>exact rfl
 |cons x l ih=>show(true&&noDicts (l.map .str))=true;rw[ih];rfl
theorem ym (l:List Str):og (.list (l.map .str)) (.list [])=some (decide (l=[])):=by
 cases l with
 |nil=>rfl
 |cons x l=>
  rw[Y6 (by simp)];rw[Fs];have:lc (.list ((x::l).map .str)) (.list [])=true:=by
   unfold lc;rw[show noDict (.list ((x::l).map .str))=true from Al _,show noDict (.list [])=true from rfl,Y5 (by show min _ (0+1)<=64;exact(L1 [min (list (List.map str (x::l))).depth ((0:Nat)+1)] .x (.c 64) .x (.p 1 (.c 0)) rfl (Nat.min_le_right ((list (List.map str (x::l))).depth) ((0:Nat)+(1:Nat)))))];rfl
  rw[Y0 this];rfl
theorem sT {d:Nat} {op:Str} {t:T} (ho:gq op=true) (hl:bD op 1=true) (h:eS ns cs d t):eS ns cs (d+1) (.doo op [t]):=.doo ho hl λu hu=>by rw[mem_singleton.mp hu];exact h
noncomputable abbrev B3:List Str:=[⟨[100,111,119,110].toArray⟩,⟨[102,105,114,115,116].toArray⟩,⟨[114,101,115,116].toArray⟩,⟨[114,101,115,116].toArray⟩,⟨[100,111,119,110].toArray⟩]
theorem vO:B3.all (λw=>gq w&&bD w 1)=true:=by kernel_rfl
theorem zv (n:Nat) (p:Int) (kn:List Str) (hs:List D) (ns:List Str) (cs:List (Str×Nat)) (hk:∀x∈kn,x∈ns):j4 (λt=>cF P (n+2) false 25 [.fz (.int p),.fz (.list (kn.map .str)),.fz (.list hs)]=some (.ok (.fz (bz t)),[])) (λt=>eS ns cs 3 t):=by
 refine aX (eX n p) λq hq=>?_
 obtain⟨d,hd,hv⟩:=Fe n q ((hs.length:Int).fmod 3);have hn:=ym kn
 by_cases q0:kn=[]\/(p.fdiv 5).fmod 8=0
 .refine⟨.val d,?_,(eS.val hv).mono (by decide)⟩
  rcases q0 with rfl|q0
  .exact aM [.c 2 hq,.c 5 hd] rfl
  .have b0:((p.fdiv 5).fmod 8==0)=true:=by simpa using q0
   by_cases qn:kn=[]
   .rw[Y5 qn]at hn
    exact aM [.c 2 hq,.b 0 hn,.c 4 hd] rfl
   .rw[Y6 qn]at hn
    exact aM [.c 2 hq,.b 0 hn,.b 1 (show au Cm.eq (int ((p.fdiv (5:Int)).fmod (8:Int))) (int (0:Int))=some true by simp only[gw,dr,b0]),.c 3 hd] rfl
 .have qn:¬kn=[]:=λh=>q0 (.inl h)
  have b0:((p.fdiv 5).fmod 8==0)=false:=by(have:¬((p.fdiv 5).fmod 8=0):=λh=>q0 (.inr h));simpa using this
  have hn:=(Y6 qn)▸hn;have lk:(((kn.map str).length:Nat):Int)=(kn.length:Int):=by rw[ZG]
  have l0:=length_pos_iff.mpr qn;have hm:=fm q kn.length (Ln [kn.length] (.i (.p 1 (.c 0)) (.n .x)) [Gl (.p 1 (.c 0)) .x] rfl l0);refine ag λG g=>?_
  obtain⟨x,hx,mx⟩:=bV (xs:=kn.map str) (r:=q.fmod kn.length) hm.1 (by refine Er lk ?_;exact hm.2);obtain⟨x,mk,rfl⟩:=mem_map.mp mx;have fx:eS ns cs 1 (.nam x):=.nam (hk x mk);have nz:((kn.length:Int)=0)=False:=by simp only[eq_iff_iff,iff_false];exact(λHJ=>(Lf [kn.length] [Gl (.p 1 (.c 0)) .x,Gj (.n .x) (.c 0)] rfl l0 HJ))
  by_cases q3:(p.fdiv 5).fmod 8<3
  .refine g ?_
   refine⟨.nam x,?_,fx.mono (by decide)⟩;exact aM [.c 2 hq,.b 0 hn,.b 1 (show au Cm.eq (int ((p.fdiv (5:Int)).fmod (8:Int))) (int (0:Int))=some false by simp only[gw,dr,b0]),.v 2 (show op2 lE.mod (int q) (int (↑(List.map str kn).length:Int))=some (Rv.fz (int (q.fmod (↑kn.length:Int)))) by simp only[lk,gi,nz,if_false]),.d 0 hx,.b 0 (show au Cm.lt (int ((p.fdiv (5:Int)).fmod (8:Int))) (int (3:Int))=some true by simp only[bB,eq_true q3,Y2])] rfl
  .refine g ?_
   refine ag λG1 g1=>?_
   obtain⟨w,hw,mw⟩:=bV (xs:=B3.map str) (r:=(p.fdiv 5).fmod 8-3) (Li [(p.fdiv (5:Int)).fmod (8:Int)] (.i (.c 0) (.s .x (.c 3))) [Gi (.c 3) .x] rfl (Int.not_lt.mp q3)) (by show _<(5:Int);exact(Li [(p.fdiv (5:Int)).fmod (8:Int)] (.i (.p 1 (.s .x (.c 3))) (.c 5)) [Gi (.p 1 .x) (.c 8)] rfl ((fm (p.fdiv 5) 8 (by decide))).2));obtain⟨w,mv,rfl⟩:=mem_map.mp mw;have ow:=all_eq_true.mp vO w mv;rw[Z8]at ow
   by_cases q7:(p.fdiv 5).fmod 8=7/\(q.fdiv 7).fmod 3=0
   .refine g1 ?_
    have b7:((p.fdiv 5).fmod 8==7)=true:=by simpa using q7.1
    have c7:((q.fdiv 7).fmod 3==0)=true:=by simpa using q7.2
    refine⟨.doo ⟨[114,101,115,116].toArray⟩ [.doo ⟨[114,101,115,116].toArray⟩ [.nam x]],?_,sT (by kernel_rfl) (by kernel_rfl) (sT (by kernel_rfl) (by kernel_rfl) fx)⟩;exact aM [.c 2 hq,.b 0 hn,.b 1 (show au Cm.eq (int ((p.fdiv (5:Int)).fmod (8:Int))) (int (0:Int))=some false by simp only[gw,dr,b0]),.v 2 (show op2 lE.mod (int q) (int (↑(List.map str kn).length:Int))=some (Rv.fz (int (q.fmod (↑kn.length:Int)))) by simp only[lk,gi,nz,if_false]),.d 0 hx,.b 0 (show au Cm.lt (int ((p.fdiv (5:Int)).fmod (8:Int))) (int (3:Int))=some false by simp only[bB,(⟨λh=>q3 h,False.elim⟩:(p.fdiv 5).fmod 8<3↔False),Y3]),.d 2 hw,.b 0 (show au Cm.eq (int ((p.fdiv (5:Int)).fmod (8:Int))) (int (7:Int))=some true by simp only[gw,dr,b7]),.b 3 (show au Cm.eq (int ((q.fdiv (7:Int)).fmod (3:Int))) (int (0:Int))=some true by simp only[gw,dr,c7])] rfl
   .refine g1 ?_
    refine⟨.doo w [.nam x],?_,(sT ow.1 ow.2 fx).mono (by decide)⟩
    by_cases r7:(p.fdiv 5).fmod 8=7
    .have b7:((p.fdiv 5).fmod 8==7)=true:=by simpa using r7
     have c7:((q.fdiv 7).fmod 3==0)=false:=by(have:¬((q.fdiv 7).fmod 3=0):=λh=>q7 ⟨r7,h⟩);simpa using this
     exact aM [.c 2 hq,.b 0 hn,.b 1 (show au Cm.eq (int ((p.fdiv (5:Int)).fmod (8:Int))) (int (0:Int))=some false by simp only[gw,dr,b0]),.v 2 (show op2 lE.mod (int q) (int (↑(List.map str kn).length:Int))=some (Rv.fz (int (q.fmod (↑kn.length:Int)))) by simp only[lk,gi,nz,if_false]),.d 0 hx,.b 0 (show au Cm.lt (int ((p.fdiv (5:Int)).fmod (8:Int))) (int (3:Int))=some false by simp only[bB,(⟨λh=>q3 h,False.elim⟩:(p.fdiv 5).fmod 8<3↔False),Y3]),.d 2 hw,.b 0 (show au Cm.eq (int ((p.fdiv (5:Int)).fmod (8:Int))) (int (7:Int))=some true by simp only[gw,dr,b7]),.b 3 (show au Cm.eq (int ((q.fdiv (7:Int)).fmod (3:Int))) (int (0:Int))=some false by simp only[gw,dr,c7])] rfl
    .have b7:((p.fdiv 5).fmod 8==7)=false:=by simpa using r7
     exact aM [.c 2 hq,.b 0 hn,.b 1 (show au Cm.eq (int ((p.fdiv (5:Int)).fmod (8:Int))) (int (0:Int))=some false by simp only[gw,dr,b0]),.v 2 (show op2 lE.mod (int q) (int (↑(List.map str kn).length:Int))=some (Rv.fz (int (q.fmod (↑kn.length:Int)))) by simp only[lk,gi,nz,if_false]),.d 0 hx,.b 0 (show au Cm.lt (int ((p.fdiv (5:Int)).fmod (8:Int))) (int (3:Int))=some false by simp only[bB,(⟨λh=>q3 h,False.elim⟩:(p.fdiv 5).fmod 8<3↔False),Y3]),.d 2 hw,.b 0 (show au Cm.eq (int ((p.fdiv (5:Int)).fmod (8:Int))) (int (7:Int))=some false by simp only[gw,dr,b7])] rfl
structure Hd where
 nm:Str
 ps:List Str
 wn:List Bool
noncomputable abbrev cN (h:Hd):D:=.tuple [.str h.nm,.tuple (h.ps.map .str),.tuple (h.wn.map .bool)]
structure Mp (cs:List (Str×Nat)) (hs:List Hd):Prop where
 ne:hs≠ []
 wn:∀h∈hs,h.wn.length=h.ps.length
 le:∀h∈hs,h.ps.length<=6
 ct:∀h∈hs,cnt cs h.nm=some h.ps.length
noncomputable abbrev sN (l:List Str):Slot:=.fz (.list (l.map .str))
noncomputable abbrev sH (l:List Hd):Slot:=.fz (.list (l.map cN))
def iK (ns kn:List Str) (hs:List Hd) (cs:List (Str×Nat)) (m e:Nat):Prop:= ∀p:Int,j4 (λt=>cF P m false 29 [.fz (.int p),.fz (.int e),sN ns,sN kn,sH hs]=some (.ok (.fz (bz t)),[])) (λt=>eS ns cs (e+4) t)
noncomputable abbrev D9:List St:=[.app (.var 6) (.call 29 [.call 11 [(.op2 .add (af 0) (.op2 .mul (aj 7919) (af 7)))],af 2,af 3,af 4,af 5])]
theorem lh (a b:List T):bu (a++b)=bu a++bu b:=by rw[jc,jc,jc,ZB]
theorem cH (k:Nat) (h:k<=1000):(if -1000000000<=(k:Int)/\(k:Int)<=(Sz:Int) then some (fO 0 (k:Int).toNat) else none)=some ((List.range k).map λ(k:Nat)=>int (0+k)):=by
 rw[Y0 ⟨by exact(Ln [k] (.i (.g (.c 1000000000)) (.n .x)) [] rfl),by show(k:Int)<=16777216;exact(Ln [k] (.i (.n .x) (.c 16777216)) [Gl .x (.c 1000)] rfl h)⟩,ZT];rfl
theorem qZ {hs:List Hd} (hF:iK ns kn hs cs (m+1) e) (p:Int) (a1:Slot):∀(ks:List Nat) (acc:List T) (s7:Slot),acc.length+ks.length<=1000->vC (λts=>cU ⟨P.glob,cF P (m+1),[],false⟩ [.fz (.int p),a1,.fz (.int e),sN ns,sN kn,sH hs,.own (.list (bu acc)),s7] (.one 7) D9 [7] (ks.map λ(k:Nat)=>.int (0+k))=some (.ok .next,[.fz (.int p),a1,.fz (.int e),sN ns,sN kn,sH hs,.own (.list (bu (acc++ts))),.no])) (λts=>ts.length=ks.length) (λts=> ∀t∈ts,eS ns cs (e+4) t):=by
 intro ks
 induction ks with
 |nil=>exact @λacc s7 aa=>⟨[],by refine Er Zy ?_;rw[bN,ZO];rfl,rfl,λt h=>by cases h⟩
 |cons k ks IH=>
  intro acc s7 hl;refine ag λG g=>?_
  refine aX (eX m (p+7919*(0+(k:Int)))) λq hq=>?_
  obtain⟨t,ht,ft⟩:=hF q;obtain⟨ts,ih,y5,hf⟩:=IH (acc++[t]) (.fz (.int (0+k))) (by simp only[ZI,ZH,length_nil]at *;exact(L1 [acc.length,ks.length] (.a (.a .x (.p 1 (.c 0))) .y) (.c 1000) (.a .x (.p 1 .y)) (.c 1000) rfl hl));refine g ?_;refine⟨t::ts,?_,by exact Er ZH (Er ZH (Er y5 rfl)),λu hu=>?_⟩
  .have hm:=gF (a:=7919) (b:=0+(k:Int)) (by decide)
   have hz:(bu acc).length<Sz:=by rw[dq];simp only[ZH]at hl;show acc.length<16777216;exact(L1 [acc.length,ks.length] (.p 1 .x) (.c 16777216) (.a .x (.p 1 .y)) (.c 1000) rfl hl)
   rw[lh,ZP]at ih;exact Er Zz (jW [.v 0 hm,.c 1 hq,.c 0 ht,.t 0 (show decide ((bu acc).length<Sz)=true by simp only[hz,Y2]),.lp 0 ih] rfl)
  .rcases mem_cons.mp hu with rfl|hu
   .exact ft
   .exact hf u hu
theorem gC {hs:List Hd} (hF:iK ns kn hs cs (m+1) e) (p:Int) (lJ:Nat) (hm:lJ<=1000):vC (λts=>cF P (m+2) false 26 [.fz (.int p),.fz (.int lJ),.fz (.int e),sN ns,sN kn,sH hs]=some (.ok (.fz (.tuple (bu ts))),[])) (λts=>ts.length=lJ) (λts=> ∀t∈ts,eS ns cs (e+4) t):=by
 obtain⟨ts,ih,hl,hf⟩:=qZ hF p (.fz (.int lJ)) (List.range lJ) [] .no (by refine Er ZE ?_;show 0+lJ<=1000;exact(L1 [lJ] (.a (.c 0) .x) (.c 1000) .x (.c 1000) rfl hm));rw[Zq,show bu []=[] from rfl]at ih;refine⟨ts,?_,by exact Er hl (Er ZE rfl),hf⟩;exact aM [.l 0 (show bG iN.range [int (↑lJ:Int)]=some (List.map (λ(k:Nat)=>int ((0:Int)+(↑k:Int))) (List.range lJ)) by simp only[cJ,reduceNeg,(cH lJ hm)]),.lp 0 ih] rfl
noncomputable abbrev Je:List St:=[.asg (.one 8) (.call 11 [.op2 .add (af 0) (.op2 .mul (aj 7919) (af 7))]),
   .iff (.idx (.idx (af 5) (aj 2)) (af 7)) [.app (.var 6) (.call 25 [af 8,af 3,af 4])] [.app (.var 6) (.call 29 [af 8,af 1,af 2,af 3,af 4])]]
theorem vL (l:List Bool) (k:Nat) (h:k<l.length):∃b,bM (l.map PyData.bool) (0+(k:Int))=some (.bool b):=by
 obtain⟨d,hd,m⟩:=bV (xs:=l.map PyData.bool) (r:=0+(k:Int)) (by exact(Ln [k] (.i (.c 0) (.a (.c 0) (.n .x))) [] rfl)) (by rw[ZG];exact(Ln [k,l.length] (.i (.p 1 (.a (.c 0) (.n .x))) (.n .y)) [Gl (.p 1 .x) .y] rfl h));obtain⟨b,_,rfl⟩:=mem_map.mp m;exact⟨b,hd⟩
theorem vp {hs:List Hd} (hF:iK ns kn hs cs (m+2) e) (hk:∀x∈kn,x∈ns) (p:Int) (h:Hd):∀(ks:List Nat) (acc:List T) (s7 s8:Slot),(∀k∈ks,k<h.wn.length)->acc.length+ks.length<=1000->vC (λts=>cU ⟨P.glob,cF P (m+2),[],false⟩ [.fz (.int p),.fz (.int e),sN ns,sN kn,sH hs,.fz (cN h),.own (.list (bu acc)),s7,s8] (.one 7) Je [7,8] (ks.map λ(k:Nat)=>.int (0+k))=some (.ok .next,[.fz (.int p),.fz (.int e),sN ns,sN kn,sH hs,.fz (cN h),.own (.list (bu (acc++ts))),.no,.no])) (λts=>ts.length=ks.length) (λts=> ∀t∈ts,eS ns cs (e+4) t):=by
 intro ks
 induction ks with
 |nil=>exact @λacc s7 s8 aa aA=>⟨[],by refine Er Zy ?_;rw[bN,ZO];rfl,rfl,λt h=>by cases h⟩
 |cons k ks IH=>
  intro acc s7 s8 hw hl;refine ag λG g=>?_
  refine aX (eX (m+1) (p+7919*(0+(k:Int)))) λq hq=>?_
  refine aX (vL h.wn k (hw k Zt)) λb hb=>?_
  have hz:(bu acc).length<Sz:=by rw[dq];simp only[ZH]at hl;show acc.length<16777216;exact(L1 [acc.length,ks.length] (.p 1 .x) (.c 16777216) (.a .x (.p 1 .y)) (.c 1000) rfl hl)
  have cz:∀t:T,(acc++[t]).length+ks.length<=1000:=λt=>by simp only[ZI,ZH,length_nil]at *;exact(L1 [acc.length,ks.length] (.a (.a .x (.p 1 (.c 0))) .y) (.c 1000) (.a .x (.p 1 .y)) (.c 1000) rfl hl)
  cases b with
  |true=>
   refine g ?_;obtain⟨t,ht,ft⟩:=zv m q kn (hs.map cN) ns cs hk;obtain⟨ts,ih,y5,hf⟩:=IH (acc++[t]) (.fz (.int (0+k))) (.fz (.int q)) (mc hw) (cz t);refine⟨t::ts,?_,by rw[ZH,ZH,y5],λu hu=>?_⟩
   .rw[lh,ZP]at ih
    rw[Zz];exact jW [.v 0 ((gF (a:=7919) (b:=0+(k:Int)) (by decide))),.c 1 hq,.d 1 hb,.c 1 ht,.t 0 (show decide ((bu acc).length<Sz)=true by simp only[hz,Y2]),.lp 0 ih] rfl
   .rcases mem_cons.mp hu with rfl|hu
    .exact ft.mono (L0 [e] (.c 3) (.p 4 .x) rfl)
    .exact hf u hu
  |false=>
   refine g ?_;obtain⟨t,ht,ft⟩:=hF q;obtain⟨ts,ih,y5,hf⟩:=IH (acc++[t]) (.fz (.int (0+k))) (.fz (.int q)) (mc hw) (cz t);refine⟨t::ts,?_,by rw[ZH,ZH,y5],λu hu=>?_⟩
   .rw[lh,ZP]at ih
    rw[Zz];exact jW [.v 0 ((gF (a:=7919) (b:=0+(k:Int)) (by decide))),.c 1 hq,.d 1 hb,.c 1 ht,.t 0 (show decide ((bu acc).length<Sz)=true by simp only[hz,Y2]),.lp 0 ih] rfl
   .rcases mem_cons.mp hu with rfl|hu
    .exact ft
    .exact hf u hu
theorem BD {hs:List Hd} (hF:iK ns kn hs cs (m+2) e) (hk:∀x∈kn,x∈ns) (hh:Mp cs hs) (p:Int):j4 (λt=>cF P (m+3) false 27 [.fz (.int p),.fz (.int e),sN ns,sN kn,sH hs]=some (.ok (.fz (bz t)),[])) (λt=>eS ns cs (e+5) t):=by
 have lk:(((hs.map cN).length:Nat):Int)=(hs.length:Int):=by rw[ZG]
 have nz:((hs.length:Int)=0)=False:=by simp only[eq_iff_iff,iff_false];exact(λwT=>(Lf [hs.length] [Gl (.p 1 (.c 0)) .x,Gj (.n .x) (.c 0)] rfl (length_pos_iff.mpr hh.ne) wT))
 have hm:=fm p hs.length (by exact(Ln [hs.length] (.i (.p 1 (.c 0)) (.n .x)) [Gl (.p 1 (.c 0)) .x] rfl (length_pos_iff.mpr hh.ne)));refine ag λG g=>?_
 obtain⟨x,hx,mx⟩:=bV (xs:=hs.map cN) (r:=p.fmod hs.length) hm.1 (by refine Er lk ?_;exact hm.2);refine ag λG1 g1=>?_
 obtain⟨h,mh,rfl⟩:=mem_map.mp mx;obtain⟨ts,ih,hl,hf⟩:=vp hF hk p h (List.range h.ps.length) [] .no .no (λk hk=>by refine Er (hh.wn h mh) ?_;exact mem_range.mp hk) (by refine Er ZE ?_;show 0+h.ps.length<=1000;exact(L1 [h.ps.length] (.a (.c 0) .x) (.c 1000) .x (.c 6) rfl (hh.le h mh)));rw[Zq,show bu []=[] from rfl]at ih;rw[ZE]at hl;refine g1 ?_;refine g ?_;refine⟨.call h.nm ts,?_,(eS.call (Er (hh.ct h mh) (Er hl rfl)) hf)⟩;have lp:(((h.ps.map str).length:Nat):Int)=(h.ps.length:Int):=by rw[ZG]
 exact aM [.v 1 (show op2 lE.mod (int p) (int (↑(List.map cN hs).length:Int))=some (Rv.fz (int (p.fmod (↑hs.length:Int)))) by simp only[lk,gi,nz,if_false]),.d 0 hx,.l 2 (show bG iN.range [int (↑(List.map str h.ps).length:Int)]=some (List.map (λ(k:Nat)=>int ((0:Int)+(↑k:Int))) (List.range h.ps.length)) by simp only[lp,cJ,reduceNeg,(cH h.ps.length (L1 [h.ps.length] .x (.c 1000) .x (.c 6) rfl (hh.le h mh)))]),.lp 0 ih] rfl
noncomputable abbrev I2:List Str:=[gH,eZ,eY,fU,gI,fT,gJ,cM,fi,bA,eJ,bh]
noncomputable abbrev Fv:List Str:=[cM,fi,bA,eJ]
noncomputable def Np (w:Str):Bool:=gq w&&(if eh w Fv then bD w 1 && !decide (w=bh) else if w=bh then true else bD w 2)
theorem Fu:I2.all Np=true:=by kernel_rfl
theorem xy (x:Str):Ii (.str x) (.tuple [(S [102,105,114,115,116]),(S [114,101,115,116]),(S [101,109,112,116,121]),(S [100,111,119,110])])=some (eh x Fv):=tc x Fv
theorem IY {hs:List Hd} (hF:iK ns kn hs cs (m+1) e) (OH:iK ns kn hs cs (m+1) 0) (p:Int):j4 (λt=>cF P (m+3) false 28 [.fz (.int p),.fz (.int e),sN ns,sN kn,sH hs]=some (.ok (.fz (bz t)),[])) (λt=>eS ns cs (e+5) t):=by
 refine ag λG1 g1=>?_
 obtain⟨x,hx,mx⟩:=bV (xs:=I2.map str) (r:=p.fmod 12) (fm p 12 (by decide)).1 (fm p 12 (by decide)).2;refine ag λG4 g4=>?_
 refine aX (mem_map.mp mx) λw Q=>?_;obtain rfl:=Q.2
 have hx:=hx;have hw:=all_eq_true.mp Fu w Q.1;have h4:=xy w;refine aX (eX (m+1) p) λq hq=>?_
 unfold Np at hw;rw[Z8]at hw;cases q4:eh w Fv with
 |true=>
  refine g4 ?_;refine g1 ?_;rw[q4]at h4 hw;simp only[if_true,Z8,not_eq_true',decide_eq_false_iff_not]at hw;refine ag λG g=>?_
  obtain⟨ts,ht,hl,hf⟩:=gC hF q 1 (by decide);refine g ?_;refine⟨.doo w ts,?_,eS.doo hw.1 (by refine Er hl ?_;exact hw.2.1) hf⟩;have nl:(w=bh)=False:=by simp only[eq_iff_iff,iff_false];exact hw.2.2
  exact aM [.d 1 hx,.b 0 h4,.b 1 (show au Cm.eq (str w) (str {cps:=#[(108:Nat),(105:Nat),(115:Nat),(116:Nat)]})=some false by simp only[mP,nl,Y3]),.c 3 hq,.c 0 ht] rfl
 |false=>
  refine g4 ?_;refine g1 ?_;rw[q4]at h4 hw;simp only[false_eq_true,if_false]at hw
  by_cases ql:w=bh
  .have tl:(w=bh)=True:=by simp only[ql]
   refine ag λG2 g2=>?_
   obtain⟨y,hy,my⟩:=bV (xs:=([0,1,2,3,8,5,1,2]:List Nat).map λ(k:Nat)=>int k) (r:=(p.fdiv 12).fmod 8) (fm (p.fdiv 12) 8 (by decide)).1 (fm (p.fdiv 12) 8 (by decide)).2;refine ag λG3 g3=>?_
   refine aX (mem_map.mp my) λk z=>?_;obtain rfl:=z.2;have mk:=z.1
   have k8:k<=8:=by simp only[Zv,Zp,or_false]at mk;omega
   have tk:bD w k=true:=by unfold bD;exact Er (Y0 ql) (Er (Y5 (by exact(Ln [k] (.i (.n .x) (.c 8)) [Gl .x (.c 8)] rfl k8))) rfl)
   by_cases q3:(3:Int)<k
   .refine g3 ?_
    refine g2 ?_;obtain⟨ts,ht,hl,hf⟩:=gC OH q k (L1 [k] .x (.c 1000) .x (.c 8) rfl k8);refine⟨.doo w ts,?_,(eS.doo hw.1 (by refine Er hl ?_;exact tk) hf).mono (L0 [e] (.p 1 (.p 4 (.c 0))) (.p 5 .x) rfl)⟩;exact aM [.d 1 hx,.b 0 h4,.b 1 (show au Cm.eq (str w) (str {cps:=#[(108:Nat),(105:Nat),(115:Nat),(116:Nat)]})=some true by simp only[mP,tl,Y2]),.d 3 hy,.b 0 (show au Cm.gt (int (↑k:Int)) (int (3:Int))=some true by simp only[eR,eq_true q3,Y2]),.c 1 hq,.c 0 ht] rfl
   .refine g3 ?_
    refine g2 ?_;obtain⟨ts,ht,hl,hf⟩:=gC hF q k (L1 [k] .x (.c 1000) .x (.c 8) rfl k8);refine⟨.doo w ts,?_,eS.doo hw.1 (by refine Er hl ?_;exact tk) hf⟩;exact aM [.d 1 hx,.b 0 h4,.b 1 (show au Cm.eq (str w) (str {cps:=#[(108:Nat),(105:Nat),(115:Nat),(116:Nat)]})=some true by simp only[mP,tl,Y2]),.d 3 hy,.b 0 (show au Cm.gt (int (↑k:Int)) (int (3:Int))=some false by simp only[eR,(⟨q3,False.elim⟩:(3:Int)<k↔False),Y3]),.c 1 hq,.c 0 ht] rfl
  .rw[Y1 ql]at hw
   have nl:(w=bh)=False:=by simp only[eq_iff_iff,iff_false];exact ql
   obtain⟨ts,ht,hl,hf⟩:=gC hF q 2 (by decide);refine⟨.doo w ts,?_,eS.doo hw.1 (by refine Er hl ?_;exact hw.2) hf⟩;exact aM [.d 1 hx,.b 0 h4,.b 1 (show au Cm.eq (str w) (str {cps:=#[(108:Nat),(105:Nat),(115:Nat),(116:Nat)]})=some false by simp only[mP,nl,Y3]),.c 3 hq,.c 0 ht] rfl
theorem mr {hs:List Hd} (cs:List (Str×Nat)) (m e:Nat) (p:Int) (h:e=0\/(p.fdiv 3).fmod 13<3):j4 (λt=>cF P (m+2) false 29 [.fz (.int p),.fz (.int e),sN ns,sN kn,sH hs]=some (.ok (.fz (bz t)),[])) (λt=>eS ns cs 1 t):=by
 refine aX (eX m p) λq hq=>?_
 obtain⟨d,hd,hv⟩:=oO m (q.fdiv 4);have hn:=ym ns;have Lk:∀(X Y:Option (Except Str Rv×List Slot)),True:=λaa aA=>trivial
 have key:((e:Int)==0)=true\/(((e:Int)==0)=false/\(p.fdiv 3).fmod 13<3):=by
  by_cases q0:e=0
  .left;subst q0;rfl
  .right
   refine⟨?_,h.resolve_left q0⟩;have:¬((e:Int)=0):=by exact(λsV=>(Or.elim (Nat.lt_or_gt_of_ne q0) (λwQ=>(Lf [e] [Gk (.n .x) (.c 0),Gl (.p 1 .x) (.c 0)] rfl sV wQ)) (λwQ=>(Lf [e] [Gj (.n .x) (.c 0),Gl (.p 1 (.c 0)) .x] rfl sV wQ))))
   simpa using this
 by_cases qn:ns=[]
 .have hn:=(Y5 qn)▸hn
  refine⟨.val d,?_,.val hv⟩
  rcases key with k0|⟨k0,k3⟩
  .exact aM [.c 2 hq,.b 0 (show au Cm.eq (int (↑e:Int)) (int (0:Int))=some true by simp only[gw,dr,k0]),.b 2 (show au Cm.ne (list (List.map str ns)) (list [])=some false by simp only[lR,hn,map_some,Bool.not_true]),.c 3 hd] rfl
  .exact aM [.c 2 hq,.b 0 (show au Cm.eq (int (↑e:Int)) (int (0:Int))=some false by simp only[gw,dr,k0]),.b 1 (show au Cm.lt (int ((p.fdiv (3:Int)).fmod (13:Int))) (int (3:Int))=some true by simp only[bB,eq_true k3,Y2]),.b 1 (show au Cm.ne (list (List.map str ns)) (list [])=some false by simp only[lR,hn,map_some,Bool.not_true]),.c 3 hd] rfl
 .have hn:=(Y6 qn)▸hn
  have lk:(((ns.map str).length:Nat):Int)=(ns.length:Int):=by rw[ZG]
  have nz:((ns.length:Int)=0)=False:=by simp only[eq_iff_iff,iff_false];exact(λpA=>(Lf [ns.length] [Gl (.p 1 (.c 0)) .x,Gj (.n .x) (.c 0)] rfl (length_pos_iff.mpr qn) pA))
  refine ag λG g=>?_
  obtain⟨x,hx,mx⟩:=bV (xs:=ns.map str) (r:=(q.fdiv 4).fmod ns.length) (fm (q.fdiv 4) ns.length (Ln [ns.length] (.i (.p 1 (.c 0)) (.n .x)) [Gl (.p 1 (.c 0)) .x] rfl (length_pos_iff.mpr qn))).1 (by refine Er lk ?_;exact(fm (q.fdiv 4) ns.length (Ln [ns.length] (.i (.p 1 (.c 0)) (.n .x)) [Gl (.p 1 (.c 0)) .x] rfl (length_pos_iff.mpr qn))).2);refine aX (mem_map.mp mx) λx Q=>?_;obtain rfl:=Q.2;have mk:=Q.1
  by_cases q4:0<q.fmod 4
  .refine g ?_
   refine⟨.nam x,?_,.nam mk⟩
   rcases key with k0|⟨k0,k3⟩
   .exact aM [.c 2 hq,.b 0 (show au Cm.eq (int (↑e:Int)) (int (0:Int))=some true by simp only[gw,dr,k0]),.b 2 (show au Cm.ne (list (List.map str ns)) (list [])=some true by simp only[lR,hn,map_some,Bool.not_false]),.b 2 (show au Cm.gt (int (q.fmod (4:Int))) (int (0:Int))=some true by simp only[eR,eq_true q4,Y2]),.v 3 (show op2 lE.mod (int (q.fdiv (4:Int))) (int (↑(List.map str ns).length:Int))=some (Rv.fz (int ((q.fdiv (4:Int)).fmod (↑ns.length:Int)))) by simp only[lk,gi,nz,if_false]),.d 0 hx] rfl
   .exact aM [.c 2 hq,.b 0 (show au Cm.eq (int (↑e:Int)) (int (0:Int))=some false by simp only[gw,dr,k0]),.b 1 (show au Cm.lt (int ((p.fdiv (3:Int)).fmod (13:Int))) (int (3:Int))=some true by simp only[bB,eq_true k3,Y2]),.b 1 (show au Cm.ne (list (List.map str ns)) (list [])=some true by simp only[lR,hn,map_some,Bool.not_false]),.b 2 (show au Cm.gt (int (q.fmod (4:Int))) (int (0:Int))=some true by simp only[eR,eq_true q4,Y2]),.v 3 (show op2 lE.mod (int (q.fdiv (4:Int))) (int (↑(List.map str ns).length:Int))=some (Rv.fz (int ((q.fdiv (4:Int)).fmod (↑ns.length:Int)))) by simp only[lk,gi,nz,if_false]),.d 0 hx] rfl
  .refine g ?_
   refine⟨.val d,?_,.val hv⟩
   rcases key with k0|⟨k0,k3⟩
   .exact aM [.c 2 hq,.b 0 (show au Cm.eq (int (↑e:Int)) (int (0:Int))=some true by simp only[gw,dr,k0]),.b 2 (show au Cm.ne (list (List.map str ns)) (list [])=some true by simp only[lR,hn,map_some,Bool.not_false]),.b 2 (show au Cm.gt (int (q.fmod (4:Int))) (int (0:Int))=some false by simp only[eR,(⟨q4,False.elim⟩:0<q.fmod 4↔False),Y3]),.c 2 hd] rfl
   .exact aM [.c 2 hq,.b 0 (show au Cm.eq (int (↑e:Int)) (int (0:Int))=some false by simp only[gw,dr,k0]),.b 1 (show au Cm.lt (int ((p.fdiv (3:Int)).fmod (13:Int))) (int (3:Int))=some true by simp only[bB,eq_true k3,Y2]),.b 1 (show au Cm.ne (list (List.map str ns)) (list [])=some true by simp only[lR,hn,map_some,Bool.not_false]),.b 2 (show au Cm.gt (int (q.fmod (4:Int))) (int (0:Int))=some false by simp only[eR,(⟨q4,False.elim⟩:0<q.fmod 4↔False),Y3]),.c 2 hd] rfl
theorem fE {hs:List Hd} (hk:∀x∈kn,x∈ns) (hh:Mp cs hs):∀(e m:Nat),3*e+3<=m->iK ns kn hs cs m e
 |0=>@λm hm p=>by
  obtain⟨k,rfl⟩:∃k,m=k+2:=⟨m-2,by exact(Zk (Ln [m,m-2] (.w .x (.p 2 .y)) [Gf (.p 2 .y) .x] rfl (Zd (n:=m) (m:=2) (L1 [m] (.c 2) .x (.p 3 (.m 3 (.c 0))) .x rfl hm))) (Ln [m-2,m] (.w (.p 2 .x) .y) [Ge (.p 2 .x) .y] rfl (Zd (n:=m) (m:=2) (L1 [m] (.c 2) .x (.p 3 (.m 3 (.c 0))) .x rfl hm))))⟩
  obtain⟨t,a,b⟩:=mr (ns:=ns) (kn:=kn) (hs:=hs) cs k 0 p (.inl rfl);exact⟨t,a,b.mono (L0 [] (.c 1) (.p 4 (.c 0)) rfl)⟩
 |e+1=>@λm hm p=>by
  obtain⟨k,rfl⟩:∃k,m=k+4:=⟨m-4,by exact(Zk (Ln [m,m-4] (.w .x (.p 4 .y)) [Gf (.p 4 .y) .x] rfl (Zd (n:=m) (m:=4) (L1 [m,e] (.c 4) .x (.p 3 (.m 3 (.p 1 .y))) .x rfl hm))) (Ln [m-4,m] (.w (.p 4 .x) .y) [Ge (.p 4 .x) .y] rfl (Zd (n:=m) (m:=4) (L1 [m,e] (.c 4) .x (.p 3 (.m 3 (.p 1 .y))) .x rfl hm))))⟩
  by_cases q3:(p.fdiv 3).fmod 13<3
  .obtain⟨t,a,b⟩:=mr (ns:=ns) (kn:=kn) (hs:=hs) cs (k+2) (e+1) p (.inr q3)
   exact⟨t,a,b.mono (L0 [e] (.c 1) (.p 4 (.p 1 .x)) rfl)⟩
  have J2:(p.fdiv 3).fmod 13<3↔False:=⟨q3,False.elim⟩
  have k0:=NG e;have ee:((e+1:Nat):Int)-1=(e:Int):=by exact(ZX (Ln [e] (.i (.s (.n (.p 1 .x)) (.c 1)) (.n .x)) [] rfl) (Ln [e] (.i (.n .x) (.s (.n (.p 1 .x)) (.c 1))) [] rfl))
  refine aX (eX (k+2) p) λq hq=>?_
  by_cases q6:(p.fdiv 3).fmod 13<6
  .obtain⟨ts,ht,hl,hf⟩:=gC (m:=k+1) (fE hk hh e (k+2) (L1 [e,k] (.p 3 (.m 3 .x)) (.p 2 .y) (.p 3 (.m 3 (.p 1 .x))) (.p 4 .y) rfl hm)) q 3 (by decide)
   have ht:cF P (k+3) false 26 [.fz (.int q),.fz (.int 3),.fz (.int e),sN ns,sN kn,sH hs]=some (.ok (.fz (.tuple (bu ts))),[]):=ht;refine⟨.iff ts,?_,eS.iff hl hf⟩;have hz:([S [105,102]]:List D).length+(bu ts).length<=Sz:=by rw[dq];refine Er hl ?_;decide
   exact aM [.c 2 hq,.b 2 (show au Cm.lt (int ((p.fdiv (3:Int)).fmod (13:Int))) (int (3:Int))=some false by simp only[bB,J2,Y3]),.b 1 (show au Cm.lt (int ((p.fdiv (3:Int)).fmod (13:Int))) (int (6:Int))=some true by simp only[bB,eq_true q6,Y2]),.c 2 (show cF P (k+(3:Nat)) false (26:Nat) [Slot.fz (int q),Slot.fz (int (3:Int)),Slot.fz (int ((↑(e+(1:Nat)):Int)-(1:Int))),Slot.fz (list (List.map str ns)),Slot.fz (list (List.map str kn)),Slot.fz (list (List.map cN hs))]=some (Except.ok (Rv.fz (tuple (bu ts))),[]) by simp only[ee,ht]),.v 0 (show op2 lE.add (tuple [str {cps:=#[(105:Nat),(102:Nat)]}]) (tuple (bu ts))=some (Rv.fz (tuple ([str {cps:=#[(105:Nat),(102:Nat)]}]++bu ts))) by simp only[wy,eq_true hz,if_true])] rfl
  by_cases q9:(p.fdiv 3).fmod 13<9
  .refine ag λG g=>?_
   obtain⟨t,ht,hf⟩:=IY (m:=k) (fE hk hh e (k+1) (L1 [e,k] (.p 3 (.m 3 .x)) (.p 1 .y) (.p 3 (.m 3 (.p 1 .x))) (.p 4 .y) rfl hm)) (fE hk hh 0 (k+1) (L1 [k,e] (.p 3 (.m 3 (.c 0))) (.p 1 .x) (.p 3 (.m 3 (.p 1 .y))) (.p 4 .x) rfl hm)) q;refine g ?_;refine⟨t,?_,hf⟩;exact aM [.c 2 hq,.b 2 (show au Cm.lt (int ((p.fdiv (3:Int)).fmod (13:Int))) (int (3:Int))=some false by simp only[bB,J2,Y3]),.b 1 (show au Cm.lt (int ((p.fdiv (3:Int)).fmod (13:Int))) (int (6:Int))=some false by simp only[bB,(⟨q6,False.elim⟩:(p.fdiv 3).fmod 13<6↔False),Y3]),.b 1 (show au Cm.lt (int ((p.fdiv (3:Int)).fmod (13:Int))) (int (9:Int))=some true by simp only[bB,eq_true q9,Y2]),.c 2 (show cF P (k+(3:Nat)) false (28:Nat) [Slot.fz (int q),Slot.fz (int ((↑(e+(1:Nat)):Int)-(1:Int))),Slot.fz (list (List.map str ns)),Slot.fz (list (List.map str kn)),Slot.fz (list (List.map cN hs))]=some (Except.ok (Rv.fz (bz t)),[]) by simp only[ee,ht])] rfl
  have MA:(p.fdiv 3).fmod 13<9↔False:=⟨q9,False.elim⟩
  by_cases MB:(p.fdiv 3).fmod 13<12
  .obtain⟨t,ht,hf⟩:=BD (m:=k) (fE hk hh e (k+2) (L1 [e,k] (.p 3 (.m 3 .x)) (.p 2 .y) (.p 3 (.m 3 (.p 1 .x))) (.p 4 .y) rfl hm)) hk hh q
   refine⟨t,?_,hf⟩;exact aM [.c 2 hq,.b 2 (show au Cm.lt (int ((p.fdiv (3:Int)).fmod (13:Int))) (int (3:Int))=some false by simp only[bB,J2,Y3]),.b 1 (show au Cm.lt (int ((p.fdiv (3:Int)).fmod (13:Int))) (int (6:Int))=some false by simp only[bB,(⟨q6,False.elim⟩:(p.fdiv 3).fmod 13<6↔False),Y3]),.b 1 (show au Cm.lt (int ((p.fdiv (3:Int)).fmod (13:Int))) (int (9:Int))=some false by simp only[bB,MA,Y3]),.b 1 (show au Cm.lt (int ((p.fdiv (3:Int)).fmod (13:Int))) (int (12:Int))=some true by simp only[bB,eq_true MB,Y2]),.c 2 (show cF P (k+(3:Nat)) false (27:Nat) [Slot.fz (int q),Slot.fz (int ((↑(e+(1:Nat)):Int)-(1:Int))),Slot.fz (list (List.map str ns)),Slot.fz (list (List.map str kn)),Slot.fz (list (List.map cN hs))]=some (Except.ok (Rv.fz (bz t)),[]) by simp only[ee,ht])] rfl
  have KN:(p.fdiv 3).fmod 13<12↔False:=⟨MB,False.elim⟩
  have h6:=fm q 6 (by decide);refine ag λG1 g1=>?_
  obtain⟨x,hx,mx⟩:=bV (xs:=iy.map str) (r:=q.fmod 6) h6.1 h6.2;refine aX (mem_map.mp mx) λx Q=>?_;obtain rfl:=Q.2
  have hx:=hx;refine g1 ?_;refine⟨.ref x,?_,(eS.ref Q.1).mono (L0 [e] (.c 1) (.p 4 (.p 1 .x)) rfl)⟩;exact aM [.c 2 hq,.b 2 (show au Cm.lt (int ((p.fdiv (3:Int)).fmod (13:Int))) (int (3:Int))=some false by simp only[bB,J2,Y3]),.b 1 (show au Cm.lt (int ((p.fdiv (3:Int)).fmod (13:Int))) (int (6:Int))=some false by simp only[bB,(⟨q6,False.elim⟩:(p.fdiv 3).fmod 13<6↔False),Y3]),.b 1 (show au Cm.lt (int ((p.fdiv (3:Int)).fmod (13:Int))) (int (9:Int))=some false by simp only[bB,MA,Y3]),.b 1 (show au Cm.lt (int ((p.fdiv (3:Int)).fmod (13:Int))) (int (12:Int))=some false by simp only[bB,KN,Y3]),.d 2 hx] rfl
theorem wK (nd:l.Nodup) {j:Nat} (hi:i<l.length) (hj:j<l.length) (h:i≠j):l.getD i ⟨#[]⟩≠l.getD j ⟨#[]⟩:=by
 rw[ZN,ZN,ZK hi,ZK hj];have q:=List.pairwise_iff_getElem.mp nd;show l[i]≠l[j]
 rcases Nat.lt_or_gt_of_ne h with uI|uI
 .exact q _ _ hi hj uI
 .exact λe=>q _ _ hj hi uI e.symm
theorem n5 (hi:i<l.length):l.getD i ⟨#[]⟩∈l:=by
 rw[ZN,ZK hi];exact getElem_mem hi
theorem nW (hi:i<l.length):bM (l.map str) (i:Int)=some (.str (l.getD i ⟨#[]⟩)):=by
 unfold bM;rw[Y0 (ZU _),ZT,ZJ,ZN,ZK hi]
 rfl
structure Ga (l:List Str) (h:Hd):Prop where
 wn:h.wn.length=h.ps.length
 le:h.ps.length<=6
 nd:h.ps.Nodup
 mem:∀x∈h.ps,x∈l
noncomputable abbrev MC:Ex:=.idx (af 1) (.op2 .mod (.op2 .add (.op2 .add (aj 2) (af 3)) (af 9)) (aj 12))
noncomputable abbrev z9 (l:List Str) (k:Nat) (js:List Nat):List Str:=js.map λj=>l.getD ((2+k+j) % 12) ⟨#[]⟩
theorem sP (n:Nat) (l:List Str) (hl:l.length=12) (k:Nat) (a0 a2 a4 a5 a6 a7 a8:Slot):∀(js:List Nat) (s9:Slot),bH ⟨P.glob,cF P n,[],false⟩ [a0,sN l,a2,.fz (.int (0+k)),a4,a5,a6,a7,a8,s9] MC (.one 9) [] (js.map λ(j:Nat)=>.int (0+j))=some (.ok ((z9 l k js).map .str),[a0,sN l,a2,.fz (.int (0+k)),a4,a5,a6,a7,a8,.no]):=by
 intro js
 induction js with
 |nil=>exact @λs9=>by refine Er Zy ?_;rw[cP];rfl
 |cons j js IH=>
  intro s9;have hx:bM (l.map str) ((2+(0+(k:Int))+(0+(j:Int))).fmod 12)=some (.str (l.getD ((2+k+j) % 12) ⟨#[]⟩)):=by
   have e:(2+(0+(k:Int))+(0+(j:Int))).fmod 12=(((2+k+j) % 12:Nat):Int):=by
    refine Er (Int.fmod_eq_emod_of_nonneg _ (by decide)) ?_;rw[ZR,ZR,Int.natCast_emod,ZV,ZV];rfl
   exact Er e (nW (by refine Er hl ?_;exact mod_lt _ (by decide)))
  exact Er Zz (y4 [.d 3 hx,.cp 0 ((IH (.fz (.int (0+j)))))] rfl)
noncomputable abbrev Kv:List St:=[.asg (.one 8) (.cmp .eq (.op2 .mod (.op2 .fdiv (af 4) (.idx (.list [aj 7,aj 14,aj 28,aj 56,aj 112,aj 224]) (af 7))) (aj 2)) (aj 1)),
    .app (.var 6) (.and [af 8,.cmp .lt (.bi .count [(.pl (.var 6)),(.lit (.bool true))]) (aj 2)])]
theorem vr:∀l:List Bool,fY (l.map .bool)=some l:=by
 intro l
 induction l with
 |nil=>exact rfl
 |cons b l ih=>
  show(fY (l.map .bool)).map _=_
  rw[ih];rfl
theorem ze (n:Nat) (c:Int) (a0 a1 a2 a3 a5 a9:Slot):∀(js:List Nat) (acc:List Bool) (s7 s8:Slot),(∀j∈js,j<6)->acc.length+js.length<=1000->j4 (λbs=>cU ⟨P.glob,cF P n,[],false⟩ [a0,a1,a2,a3,.fz (.int c),a5,.own (.list (acc.map .bool)),s7,s8,a9] (.one 7) Kv [7,8] (js.map λ(j:Nat)=>.int (0+j))=some (.ok .next,[a0,a1,a2,a3,.fz (.int c),a5,.own (.list ((acc++bs).map .bool)),.no,.no,a9])) (λbs=>bs.length=js.length):=by
 intro js
 induction js with
 |nil=>exact @λacc s7 s8 aa aA=>⟨[],by refine Er Zy ?_;rw[bN,ZO];rfl,rfl⟩
 |cons j js IH=>
  intro acc s7 s8 hj hl;refine ag λG g=>?_
  obtain⟨y,hy,my⟩:=bV (xs:=[int 7,.int 14,.int 28,.int 56,.int 112,.int 224]) (r:=0+(j:Int)) (Ln [j] (.i (.c 0) (.a (.c 0) (.n .x))) [] rfl) (by show _<(6:Int);exact(Ln [j] (.i (.p 1 (.a (.c 0) (.n .x))) (.c 6)) [Gl (.p 1 .x) (.c 6)] rfl (hj j Zt)));have:∃z:Int,y = .int z/\(z≠0/\z.natAbs<2 ^ 64):=by
   simp only[Zv,Zp,or_false]at my
   rcases my with rfl|rfl|rfl|rfl|rfl|rfl<;>exact⟨_,rfl,by decide,by decide⟩
  refine ag λG1 g1=>?_
  obtain⟨z,this⟩:=this;obtain rfl:=this.1;have hsz:(acc.map PyData.bool).length<Sz:=by rw[ZG];simp only[ZH]at hl;show acc.length<16777216;exact(L1 [acc.length,js.length] (.p 1 .x) (.c 16777216) (.a .x (.p 1 .y)) (.c 1000) rfl hl)
  have cz:∀b:Bool,(acc++[b]).length+js.length<=1000:=λb=>by simp only[ZI,ZH,length_nil]at *;exact(L1 [acc.length,js.length] (.a (.a .x (.p 1 (.c 0))) .y) (.c 1000) (.a .x (.p 1 .y)) (.c 1000) rfl hl)
  by_cases qb:(c.fdiv z).fmod 2=1
  .refine g1 ?_
   refine g ?_;obtain⟨bs,ih,hb⟩:=IH (acc++[decide (((acc.count true:Nat):Int)<2)]) (.fz (.int (0+j))) (.fz (.bool true)) (mc hj) (cz _);refine⟨decide (((acc.count true:Nat):Int)<2)::bs,?_,by refine Er ZH ?_;refine Er ZH ?_;rw[hb]⟩;rw[ZB,ZP]at ih;exact jW [.d 0 hy,.v 0 (show op2 lE.fdiv (int c) (int z)=some (Rv.fz (int (c.fdiv z))) by simp only[jA,ne_eq,this.2,not_false_eq_true,Nat.reducePow,and_self,if_true]),.b 1 (show au Cm.eq (int ((c.fdiv z).fmod (2:Int))) (int (1:Int))=some true by simp only[qb,el,Y2]),.v 1 (show ke Bi.count [list (List.map PyData.bool acc),PyData.bool true]=some (Rv.fz (int (↑(List.count true acc):Int))) by simp only[BM,(vr acc),map_some]),.b 0 (show au Cm.lt (int (↑(List.count true acc):Int)) (int (2:Int))=some (decide ((↑(List.count true acc):Int)<(2:Int))) by simp only[bB]),.t 0 (show decide ((List.map PyData.bool acc).length<Sz)=true by simp only[hsz,Y2]),.lp 0 ih] rfl
  .refine g1 ?_
   refine g ?_;obtain⟨bs,ih,hb⟩:=IH (acc++[false]) (.fz (.int (0+j))) (.fz (.bool false)) (mc hj) (cz _);refine⟨false::bs,?_,by refine Er ZH ?_;rw[ZH,hb]⟩;rw[ZB,ZP]at ih;exact jW [.d 0 hy,.v 0 (show op2 lE.fdiv (int c) (int z)=some (Rv.fz (int (c.fdiv z))) by simp only[jA,ne_eq,this.2,not_false_eq_true,Nat.reducePow,and_self,if_true]),.b 1 (show au Cm.eq (int ((c.fdiv z).fmod (2:Int))) (int (1:Int))=some false by simp only[el,qb,Y3]),.t 1 (show decide ((List.map PyData.bool acc).length<Sz)=true by simp only[hsz,Y2]),.lp 0 ih] rfl
noncomputable abbrev Cq:List St:=[.asg (.one 4) (.call 10 [af 0,.op2 .add (aj 2) (af 3)]),
   .asg (.one 5) (.idx (.list [aj 1,aj 2,aj 3,aj 2,aj 0,aj 6,aj 3]) (.op2 .mod (af 4) (aj 7))),
   .asg (.one 6) (.list []),
   .for_ (.one 7) .range [af 5] Kv [7,8],
   .app (.var 2) (.tup [.idx (af 1) (af 3),.bi .tuple [(.comp MC (.one 9) .range [af 5] [])],.bi .tuple [(.pl (.var 6))]])]
theorem uK (n:Nat) (xs:List Int) (l:List Str) (hn:hS l):∀(ks:List Nat) (acc:List Hd) (s1 s3 s4 s5 s6 s7 s8 s9:Slot),(s1 = .own (.list (l.map .str))\/s1=sN l)->(∀k∈ks,k<12)->acc.length+ks.length<=1000->Gg (λhs v6=>cU ⟨P.glob,cF P (n+1),[],false⟩ [.fz (.list (xs.map .int)),s1,.own (.list (acc.map cN)),s3,s4,s5,s6,s7,s8,.no] (.one 3) Cq [3,4,5,6,7,8] (ks.map λ(k:Nat)=>.int (0+k))=some (.ok .next,[.fz (.list (xs.map .int)),v6,.own (.list ((acc++hs).map cN)),.no,.no,.no,.no,.no,.no,.no])) (λhs v6=>hs.map (·.nm)=(ks.map λk=>l.getD k ⟨#[]⟩)) (λhs v6=> ∀h∈hs,Ga l h):=by
 intro ks
 induction ks with
 |nil=>exact @λacc s1 s3 s4 s5 s6 s7 s8 s9 h1 aa aA=>⟨[],s1,by refine Er Zy ?_;rw[bN,ZO];rfl,rfl,λt h=>by cases h⟩
 |cons k ks IH=>
  intro acc s1 s3 s4 s5 s6 s7 s8 s9 h1 hk hl;refine ag λG g=>?_
  refine aX (cell n xs (2+(0+(k:Int))) (Ln [k] (.i (.c 0) (.a (.c 2) (.a (.c 0) (.n .x)))) [] rfl)) λc hc=>?_
  refine ag λG1 g1=>?_
  obtain⟨y,hy,my⟩:=bV (xs:=([1,2,3,2,0,6,3]:List Nat).map λ(k:Nat)=>int k) (r:=c.fmod 7) (fm c 7 (by decide)).1 (fm c 7 (by decide)).2;refine ag λG2 g2=>?_
  obtain⟨m,Q⟩:=mem_map.mp my;obtain rfl:=Q.2;have mm:=Q.1;have m6:m<=6:=by simp only[Zv,Zp,or_false]at mm;omega
  have hr:=cH m (L1 [m] .x (.c 1000) .x (.c 6) rfl m6);have hx:bM (l.map str) (0+(k:Int))=some (.str (l.getD k ⟨#[]⟩)):=by rw[ZR];exact nW (by refine Er hn.len ?_;exact(hk k Zt))
  have hsz:(acc.map cN).length<Sz:=by rw[ZG];simp only[ZH]at hl;show acc.length<16777216;exact(L1 [acc.length,ks.length] (.p 1 .x) (.c 16777216) (.a .x (.p 1 .y)) (.c 1000) rfl hl)
  have wl:∀a1 a2 a9, ∃bs:List Bool,cU ⟨P.glob,cF P (n+1),[],false⟩ [.fz (.list (xs.map .int)),a1,a2,.fz (.int (0+k)),.fz (.int c),.fz (.int m),.own (.list []),.no,.no,a9] (.one 7) Kv [7,8] ((List.range m).map λ(j:Nat)=>.int (0+j))=some (.ok .next,[.fz (.list (xs.map .int)),a1,a2,.fz (.int (0+k)),.fz (.int c),.fz (.int m),.own (.list (bs.map .bool)),.no,.no,a9])/\bs.length=(List.range m).length:=λa1 a2 a9=>let ⟨bs,q1,q2⟩:=ze (n+1) c (.fz (.list (xs.map .int))) a1 a2 (.fz (.int (0+k))) (.fz (.int m)) a9 (List.range m) [] .no .no (λj hj=>by have:=mem_range.mp hj;exact(Ln [j,m] (.w (.p 1 .x) (.c 6)) [Gl .y (.c 6),Gl (.p 1 .x) .y] rfl m6 this)) (by refine Er ZE ?_;show 0+m<=1000;exact(L1 [m] (.a (.c 0) .x) (.c 1000) .x (.c 6) rfl m6));⟨bs,q1,q2⟩
  refine aX (wl s1 (.own (.list (acc.map cN))) .no) λbs q=>?_
  have hok:Ga l ⟨l.getD k ⟨#[]⟩,z9 l k (List.range m),bs⟩:=by
   refine⟨by refine Er q.2 ?_;rw[ZG],by rw[ZG];refine Er ZE ?_;exact m6,?_,λx hx=>?_⟩
   .refine pairwise_map.mpr (Pairwise.imp_of_mem ?_ List.pairwise_lt_range)
    intro a b ha hb LP;have ha:=mem_range.mp ha;have hb:=mem_range.mp hb;exact wK hn.nd (by refine Er hn.len ?_;exact mod_lt _ (by decide)) (by refine Er hn.len ?_;exact mod_lt _ (by decide)) (by omega)
   .obtain⟨j,_,rfl⟩:=mem_map.mp hx
    exact n5 (by refine Er hn.len ?_;exact mod_lt _ (by decide))
  obtain⟨hs,v6,ih,hm,hf⟩:=IH (acc++[⟨l.getD k ⟨#[]⟩,z9 l k (List.range m),bs⟩]) (sN l) (.fz (.int (0+k))) (.fz (.int c)) (.fz (.int m)) (.own (.list (bs.map .bool))) .no .no .no (.inr rfl) (mc hk) (by simp only[ZI,ZH,length_nil]at *;exact(L1 [acc.length,ks.length] (.a (.a .x (.p 1 (.c 0))) .y) (.c 1000) (.a .x (.p 1 .y)) (.c 1000) rfl hl));refine g2 ?_;refine g1 ?_;refine g ?_;refine⟨⟨l.getD k ⟨#[]⟩,z9 l k (List.range m),bs⟩::hs,v6,?_,by exact Er Zz (Er Zz (Er hm rfl)),λh hh=>?_⟩
  .rw[ZB,ZP]at ih
   refine Er Zz ?_
   rcases h1 with rfl|rfl
   .exact jW [.c 1 hc,.d 1 hy,.l 0 (show bG iN.range [int (↑m:Int)]=some (List.map (λ(k:Nat)=>int ((0:Int)+(↑k:Int))) (List.range m)) by simp only[cJ,reduceNeg,hr]),.lp 0 (q.1),.d 0 hx,.l 0 (show bG iN.range [int (↑m:Int)]=some (List.map (λ(k:Nat)=>int ((0:Int)+(↑k:Int))) (List.range m)) by simp only[cJ,reduceNeg,hr]),.cp 0 ((sP (n+1) l hn.len k (.fz (.list (xs.map .int))) (.own (.list (acc.map cN))) (.fz (.int c)) (.fz (.int m)) (.own (.list (bs.map .bool))) .no .no (List.range m) .no)),.t 2 (show decide ((List.map cN acc).length<Sz)=true by simp only[hsz,Y2]),.lp 0 ih] rfl
   .exact jW [.c 1 hc,.d 1 hy,.l 0 (show bG iN.range [int (↑m:Int)]=some (List.map (λ(k:Nat)=>int ((0:Int)+(↑k:Int))) (List.range m)) by simp only[cJ,reduceNeg,hr]),.lp 0 (q.1),.d 0 hx,.l 0 (show bG iN.range [int (↑m:Int)]=some (List.map (λ(k:Nat)=>int ((0:Int)+(↑k:Int))) (List.range m)) by simp only[cJ,reduceNeg,hr]),.cp 0 ((sP (n+1) l hn.len k (.fz (.list (xs.map .int))) (.own (.list (acc.map cN))) (.fz (.int c)) (.fz (.int m)) (.own (.list (bs.map .bool))) .no .no (List.range m) .no)),.t 2 (show decide ((List.map cN acc).length<Sz)=true by simp only[hsz,Y2]),.lp 0 ih] rfl
  .rcases mem_cons.mp hh with rfl|hh
   .exact hok
   .exact hf h hh
structure fK (l:List Str) (hs:List Hd):Prop where
 nm:hS l
 pos:1<=hs.length
 le:hs.length<=4
 nms:hs.map (·.nm)=(List.range hs.length).map λk=>l.getD k ⟨#[]⟩
 ok:∀h∈hs,Ga l h
theorem xG (n:Nat) (xs:List Int):∃l hs r,cF P (n+2) false 30 [.fz (.list (xs.map .int))]=some (.ok r,[])/\fK l hs/\(r = .own (.list (hs.map cN))\/r = .fz (.list (hs.map cN))):=by
 refine ag λG g=>?_
 refine aX (cell n xs 0 (by decide)) λc0 Nd=>?_
 refine aX (cell n xs 1 (by decide)) λc1 E5=>?_
 obtain⟨l,r,hr,hn,ho⟩:=wL n c0;have h4:=fm c1 4 (by decide);have e4:1+c1.fmod 4=(((1+c1.fmod 4).toNat:Nat):Int):=by exact(ZX (bC [((1:Int)+c1.fmod (4:Int)).toNat] [c1.fmod (4:Int)] 1 (.i (.a (.c 1) .x) (.n .x)) [Gk (.n .x) (.a (.c 1) .x)] rfl (ZS (a:=(1:Int)+c1.fmod (4:Int)) (Li [c1.fmod (4:Int)] (.i (.c 0) (.a (.c 1) .x)) [Gi (.c 0) .x] rfl h4.1))) (bC [((1:Int)+c1.fmod (4:Int)).toNat] [c1.fmod (4:Int)] 1 (.i (.n .x) (.a (.c 1) .x)) [Gj (.n .x) (.a (.c 1) .x)] rfl (ZS (a:=(1:Int)+c1.fmod (4:Int)) (Li [c1.fmod (4:Int)] (.i (.c 0) (.a (.c 1) .x)) [Gi (.c 0) .x] rfl h4.1))))
 generalize hk:(1+c1.fmod 4).toNat=k at e4;have k4:1<=k/\k<=4:=by exact⟨(bC [k] [c1.fmod (4:Int)] 1 (.w (.c 1) .x) [Gi (.c 0) .x,Gj (.a (.c 1) .x) (.n .x)] rfl h4.1 e4),(bC [k] [c1.fmod (4:Int)] 1 (.w .x (.c 4)) [Gi (.p 1 .x) (.c 4),Gk (.a (.c 1) .x) (.n .x)] rfl h4.2 e4)⟩
 have y6:∀s1,(s1 = .own (.list (l.map .str))\/s1=sN l)-> ∃(hs:List Hd) (v6:Slot),cU ⟨P.glob,cF P (n+1),[],false⟩ [.fz (.list (xs.map .int)),s1,.own (.list []),.no,.no,.no,.no,.no,.no,.no] (.one 3) Cq [3,4,5,6,7,8] ((List.range k).map λ(k:Nat)=>.int (0+k))=some (.ok .next,[.fz (.list (xs.map .int)),v6,.own (.list (hs.map cN)),.no,.no,.no,.no,.no,.no,.no])/\fK l hs:=λs1 h1=>by
  obtain⟨hs,v6,ih,hm,hf⟩:=uK n xs l hn (List.range k) [] s1 .no .no .no .no .no .no .no h1 (λj hj=>by have:=mem_range.mp hj;exact(Ln [j,k] (.w (.p 1 .x) (.c 12)) [Gl .y (.c 4),Gl (.p 1 .x) .y] rfl k4.2 this)) (by refine Er ZE ?_;show 0+k<=1000;exact(L1 [k] (.a (.c 0) .x) (.c 1000) .x (.c 4) rfl k4.2));have hl:hs.length=k:=by have:=Y7 length hm;rw[ZG,ZG,ZE]at this;exact this
  exact⟨hs,v6,ih,hn,by exact(Ln [hs.length,k] (.w (.c 1) .x) [Gl (.c 1) .y,Gf .x .y] rfl k4.1 hl),by exact(Ln [hs.length,k] (.w .x (.c 4)) [Gl .y (.c 4),Ge .x .y] rfl k4.2 hl),by refine Er hl ?_;exact hm,hf⟩
 rcases ho with rfl|rfl
 .refine g ?_
  obtain⟨hs,v6,ih,ok⟩:=y6 (.own (.list (l.map .str))) (.inl rfl);refine⟨l,hs,.fz (.list (hs.map cN)),?_,ok,.inr rfl⟩;exact aM [.c 0 Nd,.c 0 hr,.c 0 E5,.l 2 (show bG iN.range [int ((1:Int)+c1.fmod (4:Int))]=some (List.map (λ(k:Nat)=>int ((0:Int)+(↑k:Int))) (List.range k)) by simp only[e4,cJ,reduceNeg,(cH k (L1 [k] .x (.c 1000) .x (.c 4) rfl k4.2))]),.lp 0 ih] rfl
 .refine g ?_
  obtain⟨hs,v6,ih,ok⟩:=y6 (sN l) (.inr rfl);refine⟨l,hs,.fz (.list (hs.map cN)),?_,ok,.inr rfl⟩;exact aM [.c 0 Nd,.c 0 hr,.c 0 E5,.l 2 (show bG iN.range [int ((1:Int)+c1.fmod (4:Int))]=some (List.map (λ(k:Nat)=>int ((0:Int)+(↑k:Int))) (List.range k)) by simp only[e4,cJ,reduceNeg,(cH k (L1 [k] .x (.c 1000) .x (.c 4) rfl k4.2))]),.lp 0 ih] rfl
noncomputable abbrev gs (hs:List Hd):List (Str×Nat):=hs.map λh=>(h.nm,h.ps.length)
theorem fK.nd {hs:List Hd} (h:fK l hs):(hs.map (·.nm)).Nodup:=by
 rw[h.nms];refine pairwise_map.mpr (Pairwise.imp_of_mem ?_ List.pairwise_lt_range);intro a b ha hb LP;have ha:=mem_range.mp ha;have hb:=mem_range.mp hb;have:=h.le;exact wK h.nm.nd (by rw[h.nm.len];exact(Ln [a,hs.length] (.w (.p 1 .x) (.c 12)) [Gl (.p 1 .x) .y,Gl .y (.c 4)] rfl ha this)) (by rw[h.nm.len];exact(Ln [b,hs.length] (.w (.p 1 .x) (.c 12)) [Gl (.p 1 .x) .y,Gl .y (.c 4)] rfl hb this)) (by exact(λHO=>(Lf [a,b] [Gl (.p 1 .x) .y,Gf .x .y] rfl LP HO)))
theorem fK.mem {hs:List Hd} (h:fK l hs):∀x∈hs.map (·.nm),x∈l:=by
 rw[h.nms];intro x hx;obtain⟨k,hk,rfl⟩:=mem_map.mp hx;have:=mem_range.mp hk;have:=h.le;exact n5 (by rw[h.nm.len];exact(Ln [k,hs.length] (.w (.p 1 .x) (.c 12)) [Gl (.p 1 .x) .y,Gl .y (.c 4)] rfl ‹k<hs.length› this))
theorem fX:∀ {hs:List Hd},(hs.map (·.nm)).Nodup-> ∀h∈hs,cnt (gs hs) h.nm=some h.ps.length:=by
 intro hs
 induction hs with
 |nil=>exact @λaa h m=>by cases m
 |cons g hs ih=>
  intro nd h m;rw[Zz,nodup_cons]at nd;unfold cnt gs;rw[Zz,find?_cons]
  by_cases q:g.nm=h.nm
  .rw[Y5 q]
   rcases mem_cons.mp m with rfl|m
   .rfl
   .exact absurd (mem_map.mpr ⟨h,m,q.symm⟩) nd.1
  .rw[Y6 q]
   rcases mem_cons.mp m with rfl|m
   .exact absurd rfl q
   .exact ih nd.2 h m
theorem fK.hok {hs:List Hd} (h:fK l hs):Mp (gs hs) hs:=⟨λe=>(by have:=h.pos;rw[e]at this;cases this),λg hg=>(h.ok g hg).wn,λg hg=>(h.ok g hg).le,λg hg=>fX h.nd g hg⟩
noncomputable abbrev oJ:Hd:=⟨⟨#[]⟩,[],[]⟩
theorem LB {hs:List Hd} {k:Nat} (hk:k<hs.length):bM (hs.map cN) (0+(k:Int))=some (cN (hs.getD k oJ))/\hs.getD k oJ∈hs:=by
 unfold bM;rw[ZR,Y0 (ZU _),ZT,ZJ,ZN,ZK hk];exact⟨rfl,getElem_mem hk⟩
theorem AG (n:Nat) (ps:List Str) (wn:List Bool) (hw:wn.length=ps.length) (a0 a1 a2 a3 a4 a7 a8 a9 Kr Kq:Slot):∀(js:List Nat) (KF:Slot),(∀j∈js,j<ps.length)-> ∃kn:List Str,bH ⟨P.glob,cF P n,[],false⟩ [a0,a1,a2,a3,a4,.fz (.tuple (ps.map .str)),.fz (.tuple (wn.map .bool)),a7,a8,a9,Kr,Kq,KF] (.idx (af 5) (af 12)) (.one 12) [.idx (af 6) (af 12)] (js.map λ(j:Nat)=>.int (0+j))=some (.ok (kn.map .str),[a0,a1,a2,a3,a4,.fz (.tuple (ps.map .str)),.fz (.tuple (wn.map .bool)),a7,a8,a9,Kr,Kq,.no])/\ ∀x∈kn,x∈ps:=by
 intro js
 induction js with
 |nil=>exact @λKF aa=>⟨[],by rw[Zy,cP];rfl,λx h=>by cases h⟩
 |cons j js IH=>
  intro KF hj;have j1:=hj j Zt;refine ag λG g=>?_
  refine aX (vL wn j (Ln [j,wn.length,ps.length] (.w (.p 1 .x) .y) [Gf .y .z,Gl (.p 1 .x) .z] rfl hw j1)) λb hb=>?_
  have hx:bM (ps.map str) (0+(j:Int))=some (.str (ps.getD j ⟨#[]⟩)):=by rw[ZR];exact nW j1
  refine aX (IH (.fz (.int (0+j))) (mc hj)) λkn q=>?_
  cases b with
  |true=>
   refine g ?_;refine⟨ps.getD j ⟨#[]⟩::kn,?_,λx hx=>?_⟩
   .exact Er Zz (y4 [.d 0 hb,.d 1 hx,.cp 0 (q.1)] rfl)
   .rcases mem_cons.mp hx with rfl|hx
    .exact n5 j1
    .exact q.2 x hx
  |false=>
   refine g ?_;refine⟨kn,?_,q.2⟩;exact Er Zz (y4 [.d 0 hb,.cp 1 (q.1)] rfl)
noncomputable abbrev wc:List St:=[.asg (.tup [4,5,6]) (.idx (af 1) (af 3)),
   .asg (.one 7) (.comp (.idx (af 5) (af 12)) (.one 12) .range [.bi .len [af 5]] [.idx (af 6) (af 12)]),
   .asg (.one 8) (.call 11 [(.op2 .add (.op2 .mul (.call 10 [af 0,.op2 .add (aj 6) (af 3)]) (aj 977)) (af 3))]),
   .asg (.one 9) (.call 29 [af 8,(.op2 .add (aj 1) (.op2 .mod (.op2 .fdiv (.call 10 [af 0,aj 10]) (.op2 .add (af 3) (aj 1))) (aj 3))),.bi .list [af 5],af 7,af 1]),
   .iff (.and [(.cmp .gt (.op2 .mod (.op2 .fdiv (.call 10 [af 0,aj 11]) (.op2 .add (af 3) (aj 1))) (aj 3)) (aj 0)),.cmp .gt (.bi .len [af 5]) (aj 0)]) [.asg (.one 10) (.call 11 [.op2 .add (af 8) (aj 31)]),
    .asg (.one 11) (.tup [.lit (S [110,97,109,101]),.idx (af 5) (.op2 .mod (af 10) (.bi .len [af 5]))]),
    .iff (.cmp .eq (.op2 .mod (.op2 .fdiv (af 10) (aj 8)) (aj 2)) (aj 1)) [.asg (.one 11) (.tup [.lit (S [100,111]),.lit (S [101,109,112,116,121]),.tup [af 11]])] [],
    .asg (.one 9) (.tup [.lit (S [105,102]),af 11,af 9,.call 29 [af 10,aj 2,(.bi .list [af 5]),af 7,af 1]])] [],
   .app (.var 2) (.tup [af 4,af 5,af 9])]
inductive yV (n:Nat) (xs:List Int) (hs:List Hd) (h:Hd) (k:Nat) (acc:List ey) (s3 s4 s5 s6 s7 s8 s9 z3 z0:Slot) (rest:List D):Prop
 |mk (t:T) (NO NN Hs Hr NM NL KH KG:Slot):eS h.ps (gs hs) 8 t->(∀R,cU ⟨P.glob,cF P (n+20),[],false⟩ [.fz (.list (xs.map .int)),sH hs,.own (.list ((acc++[(h.nm,h.ps,t)]).map fG)),.fz (.int (0+k)),NO,NN,Hs,Hr,NM,NL,KH,KG,.no] (.one 3) wc [3,4,5,6,7,8,9,10,11] rest=some R->cU ⟨P.glob,cF P (n+20),[],false⟩ [.fz (.list (xs.map .int)),sH hs,.own (.list (acc.map fG)),s3,s4,s5,s6,s7,s8,s9,z3,z0,.no] (.one 3) wc [3,4,5,6,7,8,9,10,11] (.int (0+k)::rest)=some R)->yV n xs hs h k acc s3 s4 s5 s6 s7 s8 s9 z3 z0 rest
theorem uq (n:Nat) (xs:List Int) {hs:List Hd} (hh:fK l hs) (k:Nat) (hk:k<hs.length) (acc:List ey) (hl:acc.length<=1000) (s3 s4 s5 s6 s7 s8 s9 z3 z0:Slot) (rest:List D):yV n xs hs (hs.getD k oJ) k acc s3 s4 s5 s6 s7 s8 s9 z3 z0 rest:=by
 refine ag λG g=>?_
 have z:=LB hk;generalize hs.getD k oJ=h at *;refine ag λG1 g1=>?_
 obtain⟨c6,Kh⟩:=cell (n+19) xs (6+(0+(k:Int))) (Ln [k] (.i (.c 0) (.a (.c 6) (.a (.c 0) (.n .x)))) [] rfl);refine aX (cell (n+19) xs 10 (by decide)) λjI A1=>?_
 refine aX (cell (n+19) xs 11 (by decide)) λyH A0=>?_
 have Kb:=wU (a:=c6) (b:=977) (by decide);refine aX (eX (n+19) (c6*977+(0+(k:Int)))) λq hq=>?_
 refine aX (eX (n+19) (q+31)) λq2 MU=>?_
 have hr:=cH h.ps.length (by have:=(hh.ok h z.2).le;exact(L1 [h.ps.length] .x (.c 1000) .x (.c 6) rfl this));have lp:(((h.ps.map str).length:Nat):Int)=(h.ps.length:Int):=by rw[ZG]
 obtain⟨kn,Kf,M5⟩:=AG (n+20) h.ps h.wn (hh.ok h z.2).wn (.fz (.list (xs.map .int))) (sH hs) (.own (.list (acc.map fG))) (.fz (.int (0+k))) (.fz (.str h.nm)) .no .no .no .no .no (List.range h.ps.length) .no λj hj=>mem_range.mp hj
 have k4:k<4:=by have:=hh.le;exact(Ln [k,hs.length] (.w (.p 1 .x) (.c 4)) [Gl (.p 1 .x) .y,Gl .y (.c 4)] rfl hk this)
 have dz:((0+(k:Int)+1≠0)/\(0+(k:Int)+1).natAbs<2 ^ 64):=⟨by exact(λHI=>(Lf [k] [Gj (.p 1 (.a (.c 0) (.n .x))) (.c 0)] rfl HI)),by exact(Ln [((0:Int)+(↑k:Int)+(1:Int)).natAbs,k] (.w (.p 1 .x) (.c 18446744073709551616)) [Gl (.p 1 .y) (.c 4),Gj (.n .x) (.p 1 (.a (.c 0) (.n .y)))] rfl k4 (ZW (a:=(0:Int)+(↑k:Int)+(1:Int)) (Ln [k] (.i (.c 0) (.p 1 (.a (.c 0) (.n .x)))) [] rfl)))⟩
 have h3:=fm (jI.fdiv (0+(k:Int)+1)) 3 (by decide);have e3:1+(jI.fdiv (0+(k:Int)+1)).fmod 3=(((1+(jI.fdiv (0+(k:Int)+1)).fmod 3).toNat:Nat):Int):=by exact(ZX (bC [((1:Int)+(jI.fdiv ((0:Int)+(↑k:Int)+(1:Int))).fmod (3:Int)).toNat] [(jI.fdiv ((0:Int)+(↑k:Int)+(1:Int))).fmod (3:Int)] 1 (.i (.a (.c 1) .x) (.n .x)) [Gk (.n .x) (.a (.c 1) .x)] rfl (ZS (a:=(1:Int)+(jI.fdiv ((0:Int)+(↑k:Int)+(1:Int))).fmod (3:Int)) (Li [(jI.fdiv ((0:Int)+(↑k:Int)+(1:Int))).fmod (3:Int)] (.i (.c 0) (.a (.c 1) .x)) [Gi (.c 0) .x] rfl h3.1))) (bC [((1:Int)+(jI.fdiv ((0:Int)+(↑k:Int)+(1:Int))).fmod (3:Int)).toNat] [(jI.fdiv ((0:Int)+(↑k:Int)+(1:Int))).fmod (3:Int)] 1 (.i (.n .x) (.a (.c 1) .x)) [Gj (.n .x) (.a (.c 1) .x)] rfl (ZS (a:=(1:Int)+(jI.fdiv ((0:Int)+(↑k:Int)+(1:Int))).fmod (3:Int)) (Li [(jI.fdiv ((0:Int)+(↑k:Int)+(1:Int))).fmod (3:Int)] (.i (.c 0) (.a (.c 1) .x)) [Gi (.c 0) .x] rfl h3.1))))
 generalize LJ:(1+(jI.fdiv (0+(k:Int)+1)).fmod 3).toNat=e at e3;obtain⟨t,ht,ft⟩:=fE M5 hh.hok e (n+20) (bC [e,n] [(jI.fdiv ((0:Int)+(↑k:Int)+(1:Int))).fmod (3:Int)] 1 (.w (.p 3 (.m 3 .x)) (.p 20 .y)) [(3,.i (.p 1 .x) (.c 3)),(-3,.j (.a (.c 1) .x) (.n .x))] rfl h3.2 e3) q;obtain⟨t2,MR,OL⟩:=fE M5 hh.hok 2 (n+20) (L0 [n] (.p 3 (.m 3 (.c 2))) (.p 20 .x) rfl) q2;have hsz:(acc.map fG).length<Sz:=by rw[ZG];show acc.length<16777216;exact(L1 [acc.length] (.p 1 .x) (.c 16777216) .x (.c 1000) rfl hl)
 have f1:bG .range [.int ((h.ps.map str).length:Int)]=some ((List.range h.ps.length).map λ(k:Nat)=>int (0+k)):=by exact Er lp ((cJ _).trans hr)
 have f2:op2 .fdiv (.int jI) (.int (0+(k:Int)+1))=some (.fz (.int (jI.fdiv (0+(k:Int)+1)))):=(jA _ _).trans (Y0 dz);have f3:op2 .fdiv (.int yH) (.int (0+(k:Int)+1))=some (.fz (.int (yH.fdiv (0+(k:Int)+1)))):=(jA _ _).trans (Y0 dz);rw[<- e3]at ht;clear hr dz e3;refine ag λG5 g5=>?_
 by_cases qa:0<(yH.fdiv (0+(k:Int)+1)).fmod 3
 .refine g5 ?_
  refine g1 ?_;refine g ?_
  by_cases qb:(0:Int)<(h.ps.length:Int)
  .have J1:((0:Int)<(h.ps.length:Int))↔True:=⟨λaa=>trivial,λaa=>qb⟩
   have nz:((h.ps.length:Int)=0)=False:=by simp only[eq_iff_iff,iff_false];exact(λHG=>(Lf [h.ps.length] [Gi (.p 1 (.c 0)) (.n .x),Gj (.n .x) (.c 0)] rfl qb HG))
   refine ag λG2 g2=>?_
   obtain⟨x,MP,mx⟩:=bV (xs:=h.ps.map str) (r:=q2.fmod h.ps.length) (fm q2 h.ps.length qb).1 (by refine Er lp ?_;exact(fm q2 h.ps.length qb).2);refine ag λG3 g3=>?_
   obtain⟨x,Q⟩:=mem_map.mp mx;obtain rfl:=Q.2;have B2:∀u:T,eS h.ps (gs hs) 2 u->eS h.ps (gs hs) 8 (.iff [u,t,t2]):=λu fu=>eS.iff (d:=7) rfl λv hv=>by
    simp only[Zv,Zp,or_false]at hv
    rcases hv with rfl|rfl|rfl
    .exact fu.mono (by decide)
    .exact ft.mono (bC [e,((1:Int)+(jI.fdiv ((0:Int)+(↑k:Int)+(1:Int))).fmod (3:Int)).toNat] [(jI.fdiv ((0:Int)+(↑k:Int)+(1:Int))).fmod (3:Int)] 1 (.w (.p 4 .x) (.c 7)) [Gi (.p 1 .x) (.c 3),Gf .y .x,Gj (.n .y) (.a (.c 1) .x)] rfl h3.2 LJ (ZS (a:=(1:Int)+(jI.fdiv ((0:Int)+(↑k:Int)+(1:Int))).fmod (3:Int)) (Li [(jI.fdiv ((0:Int)+(↑k:Int)+(1:Int))).fmod (3:Int)] (.i (.c 0) (.a (.c 1) .x)) [Gi (.c 0) .x] rfl h3.1)))
    .exact OL.mono (by decide)
   refine ag λG4 g4=>?_
   by_cases qc:(q2.fdiv 8).fmod 2=1
   .refine g4 ?_
    refine g3 ?_;refine g2 ?_;have KL:=qc;refine⟨.iff [.doo bA [.nam x],t,t2],.fz (.str h.nm),.fz (d4 h.ps),.fz (.tuple (h.wn.map .bool)),.fz (.list (kn.map .str)),.fz (.int q),.fz (bz (.iff [.doo bA [.nam x],t,t2])),.fz (.int q2),.fz (bz (.doo bA [.nam x])),B2 _ (sT (by kernel_rfl) (by kernel_rfl) (.nam Q.1:eS h.ps (gs hs) 1 (.nam x))),λR hR=>?_⟩;rw[ZB]at hR;exact jW [.d 0 (z.1),.l 1 f1,.cp 0 Kf,.c 1 Kh,.v 0 Kb,.c 1 hq,.c 0 A1,.v 1 f2,.c 3 ht,.c 0 A0,.v 1 f3,.b 1 (show au Cm.gt (int ((yH.fdiv ((0:Int)+(↑k:Int)+(1:Int))).fmod (3:Int))) (int (0:Int))=some true by simp only[eR,(⟨λaa=>trivial,λaa=>qa⟩:(0<(yH.fdiv (0+(k:Int)+1)).fmod 3)↔True),Y2]),.b 2 (show au Cm.gt (int (↑(List.map str h.ps).length:Int)) (int (0:Int))=some true by simp only[lp,eR,J1,Y2]),.c 2 MU,.v 1 (show op2 lE.mod (int q2) (int (↑(List.map str h.ps).length:Int))=some (Rv.fz (int (q2.fmod (↑h.ps.length:Int)))) by simp only[lp,gi,nz,if_false]),.d 0 MP,.b 2 (show au Cm.eq (int ((q2.fdiv (8:Int)).fmod (2:Int))) (int (1:Int))=some true by simp only[KL,el,Y2]),.c 2 MR,.t 0 (show decide ((List.map fG acc).length<Sz)=true by simp only[hsz,Y2]),.lp 0 hR] rfl
   .refine g4 ?_
    refine g3 ?_;refine g2 ?_;have KL:=qc;refine⟨.iff [.nam x,t,t2],.fz (.str h.nm),.fz (d4 h.ps),.fz (.tuple (h.wn.map .bool)),.fz (.list (kn.map .str)),.fz (.int q),.fz (bz (.iff [.nam x,t,t2])),.fz (.int q2),.fz (bz (.nam x)),B2 _ ((.nam Q.1:eS h.ps (gs hs) 1 (.nam x)).mono (by decide)),λR hR=>?_⟩;rw[ZB]at hR;exact jW [.d 0 (z.1),.l 1 f1,.cp 0 Kf,.c 1 Kh,.v 0 Kb,.c 1 hq,.c 0 A1,.v 1 f2,.c 3 ht,.c 0 A0,.v 1 f3,.b 1 (show au Cm.gt (int ((yH.fdiv ((0:Int)+(↑k:Int)+(1:Int))).fmod (3:Int))) (int (0:Int))=some true by simp only[eR,(⟨λaa=>trivial,λaa=>qa⟩:(0<(yH.fdiv (0+(k:Int)+1)).fmod 3)↔True),Y2]),.b 2 (show au Cm.gt (int (↑(List.map str h.ps).length:Int)) (int (0:Int))=some true by simp only[lp,eR,J1,Y2]),.c 2 MU,.v 1 (show op2 lE.mod (int q2) (int (↑(List.map str h.ps).length:Int))=some (Rv.fz (int (q2.fmod (↑h.ps.length:Int)))) by simp only[lp,gi,nz,if_false]),.d 0 MP,.b 2 (show au Cm.eq (int ((q2.fdiv (8:Int)).fmod (2:Int))) (int (1:Int))=some false by simp only[el,KL,Y3]),.c 2 MR,.t 0 (show decide ((List.map fG acc).length<Sz)=true by simp only[hsz,Y2]),.lp 0 hR] rfl
  .have J1:((0:Int)<(h.ps.length:Int))↔False:=⟨qb,False.elim⟩
   refine⟨t,.fz (.str h.nm),.fz (d4 h.ps),.fz (.tuple (h.wn.map .bool)),.fz (.list (kn.map .str)),.fz (.int q),.fz (bz t),.no,.no,ft.mono (by exact(bC [e,((1:Int)+(jI.fdiv ((0:Int)+(↑k:Int)+(1:Int))).fmod (3:Int)).toNat] [(jI.fdiv ((0:Int)+(↑k:Int)+(1:Int))).fmod (3:Int)] 1 (.w (.p 4 .x) (.c 8)) [Gi (.p 1 .x) (.c 3),Gf .y .x,Gj (.n .y) (.a (.c 1) .x)] rfl h3.2 LJ (ZS (a:=(1:Int)+(jI.fdiv ((0:Int)+(↑k:Int)+(1:Int))).fmod (3:Int)) (Li [(jI.fdiv ((0:Int)+(↑k:Int)+(1:Int))).fmod (3:Int)] (.i (.c 0) (.a (.c 1) .x)) [Gi (.c 0) .x] rfl h3.1)))),λR hR=>?_⟩;rw[ZB]at hR;exact jW [.d 0 (z.1),.l 1 f1,.cp 0 Kf,.c 1 Kh,.v 0 Kb,.c 1 hq,.c 0 A1,.v 1 f2,.c 3 ht,.c 0 A0,.v 1 f3,.b 1 (show au Cm.gt (int ((yH.fdiv ((0:Int)+(↑k:Int)+(1:Int))).fmod (3:Int))) (int (0:Int))=some true by simp only[eR,(⟨λaa=>trivial,λaa=>qa⟩:(0<(yH.fdiv (0+(k:Int)+1)).fmod 3)↔True),Y2]),.b 2 (show au Cm.gt (int (↑(List.map str h.ps).length:Int)) (int (0:Int))=some false by simp only[lp,eR,J1,Y3]),.t 1 (show decide ((List.map fG acc).length<Sz)=true by simp only[hsz,Y2]),.lp 0 hR] rfl
 .refine g5 ?_
  refine g1 ?_;refine g ?_;have NP:(0<(yH.fdiv (0+(k:Int)+1)).fmod 3)↔False:=⟨qa,False.elim⟩
  refine⟨t,.fz (.str h.nm),.fz (d4 h.ps),.fz (.tuple (h.wn.map .bool)),.fz (.list (kn.map .str)),.fz (.int q),.fz (bz t),.no,.no,ft.mono (bC [e,((1:Int)+(jI.fdiv ((0:Int)+(↑k:Int)+(1:Int))).fmod (3:Int)).toNat] [(jI.fdiv ((0:Int)+(↑k:Int)+(1:Int))).fmod (3:Int)] 1 (.w (.p 4 .x) (.c 8)) [Gi (.p 1 .x) (.c 3),Gf .y .x,Gj (.n .y) (.a (.c 1) .x)] rfl h3.2 LJ (ZS (a:=(1:Int)+(jI.fdiv ((0:Int)+(↑k:Int)+(1:Int))).fmod (3:Int)) (Li [(jI.fdiv ((0:Int)+(↑k:Int)+(1:Int))).fmod (3:Int)] (.i (.c 0) (.a (.c 1) .x)) [Gi (.c 0) .x] rfl h3.1))),λR hR=>?_⟩;have hR:=ZB▸hR;exact jW [.d 0 (z.1),.l 1 f1,.cp 0 Kf,.c 1 Kh,.v 0 Kb,.c 1 hq,.c 0 A1,.v 1 f2,.c 3 ht,.c 0 A0,.v 1 f3,.b 1 (show au Cm.gt (int ((yH.fdiv ((0:Int)+(↑k:Int)+(1:Int))).fmod (3:Int))) (int (0:Int))=some false by simp only[eR,NP,Y3]),.t 2 (show decide ((List.map fG acc).length<Sz)=true by simp only[hsz,Y2]),.lp 0 hR] rfl
theorem ur (n:Nat) (xs:List Int) {hs:List Hd} (hh:fK l hs):∀(ks:List Nat) (acc:List ey) (s3 s4 s5 s6 s7 s8 s9 z3 z0:Slot),(∀k∈ks,k<hs.length)->acc.length+ks.length<=1000->vC (λfs=>cU ⟨P.glob,cF P (n+20),[],false⟩ [.fz (.list (xs.map .int)),sH hs,.own (.list (acc.map fG)),s3,s4,s5,s6,s7,s8,s9,z3,z0,.no] (.one 3) wc [3,4,5,6,7,8,9,10,11] (ks.map λ(k:Nat)=>.int (0+k))=some (.ok .next,[.fz (.list (xs.map .int)),sH hs,.own (.list ((acc++fs).map fG)),.no,.no,.no,.no,.no,.no,.no,.no,.no,.no])) (λfs=>(fs.map λf=>(f.1,f.2.1))=(ks.map λk=>((hs.getD k oJ).nm,(hs.getD k oJ).ps))) (λfs=> ∀f∈fs,eS f.2.1 (gs hs) 8 f.2.2):=by
 intro ks
 induction ks with
 |nil=>exact @λacc s3 s4 s5 s6 s7 s8 s9 z3 z0 aa aA=>⟨[],by refine Er Zy ?_;rw[bN,ZO];rfl,rfl,λf h=>by cases h⟩
 |cons k ks IH=>
  intro acc s3 s4 s5 s6 s7 s8 s9 z3 z0 hk hl;have hl:=ZH▸hl;obtain⟨t,a4,a5,a6,a7,a8,a9,Kr,Kq,ft,st⟩:=uq n xs hh k (hk k Zt) acc (L1 [acc.length,ks.length] .x (.c 1000) (.a .x (.p 1 .y)) (.c 1000) rfl hl) s3 s4 s5 s6 s7 s8 s9 z3 z0 (ks.map λ(k:Nat)=>.int (0+k));obtain⟨fs,ih,hm,hf⟩:=IH (acc++[((hs.getD k oJ).nm,(hs.getD k oJ).ps,t)]) (.fz (.int (0+k))) a4 a5 a6 a7 a8 a9 Kr Kq (mc hk) (by refine Er ZI ?_;show acc.length+1+ks.length<=1000;exact(L1 [acc.length,ks.length] (.a (.p 1 .x) .y) (.c 1000) (.a .x (.p 1 .y)) (.c 1000) rfl hl));refine⟨((hs.getD k oJ).nm,(hs.getD k oJ).ps,t)::fs,?_,by exact Er Zz (Er Zz (Er hm rfl)),λf h=>?_⟩
  .rw[ZP]at ih
   exact st _ ih
  .rcases mem_cons.mp h with rfl|h
   .exact ft
   .exact hf f h
theorem uo (hs:List Hd):((List.range hs.length).map λk=>((hs.getD k oJ).nm,(hs.getD k oJ).ps))=hs.map λh=>(h.nm,h.ps):=by
 apply List.ext_getElem?;intro i;rw[ZJ,ZJ]
 by_cases q:i<hs.length
 .rw[List.getElem?_range q,ZK q]
  show some ((hs.getD i oJ).nm,(hs.getD i oJ).ps)=some (hs[i].nm,hs[i].ps)
  rw[ZN,ZK q];rfl
 .rw[List.getElem?_eq_none (by rw[ZE];exact(Nat.not_lt.mp q)),List.getElem?_eq_none (by exact(Nat.not_lt.mp q))];rfl
structure F6 (hs:List Hd) (fs:List ey):Prop where
 hd:(fs.map λf=>(f.1,f.2.1))=hs.map λh=>(h.nm,h.ps)
 ok:∀f∈fs,eS f.2.1 (gs hs) 8 f.2.2
theorem qY (n:Nat) (xs:List Int) {hs:List Hd} (hh:fK l hs):j4 (λfs=>cF P (n+21) false 31 [.fz (.list (xs.map .int)),sH hs]=some (.ok (.fz (fF fs)),[])) (λfs=>F6 hs fs):=by
 obtain⟨fs,ih,hm,hf⟩:=ur n xs hh (List.range hs.length) [] .no .no .no .no .no .no .no .no .no (λk hk=>mem_range.mp hk) (by refine Er ZE ?_;show 0+hs.length<=1000;exact(L1 [hs.length] (.a (.c 0) .x) (.c 1000) .x (.c 4) rfl hh.le));rw[uo]at hm;rw[Zy,Zq]at ih;refine⟨fs,?_,hm,hf⟩;have lp:(((hs.map cN).length:Nat):Int)=(hs.length:Int):=by rw[ZG]
 exact aM [.l 1 (show bG iN.range [int (↑(List.map cN hs).length:Int)]=some (List.map (λ(k:Nat)=>int ((0:Int)+(↑k:Int))) (List.range hs.length)) by simp only[lp,cJ,reduceNeg,(cH hs.length (L1 [hs.length] .x (.c 1000) .x (.c 4) rfl hh.le))]),.lp 0 ih] rfl
mutual
noncomputable def sz:T->Nat
 |.iff ps=>1+gx ps
 |.doo _ ps=>1+gx ps
 |.call _ ps=>1+gx ps
 |_=>1
noncomputable def gx:List T->Nat
 |[]=>0
 |t::ts=>sz t+gx ts
end
mutual
noncomputable def ht:T->Nat
 |.iff ps=>1+hV ps
 |.doo _ ps=>1+hV ps
 |.call _ ps=>1+hV ps
 |_=>1
noncomputable def hV:List T->Nat
 |[]=>0
 |t::ts=>max (ht t) (hV ts)
end
theorem Mf {op:Str} {k:Nat} (h:bD op k=true):k<=8:=by
 unfold bD at h
 by_cases q:op=bh
 .rw[Y0 q]at h;have:=YZ h;exact(Ln [k] (.w .x (.c 8)) [Gi (.n .x) (.c 8)] rfl this)
 .rw[Y1 q]at h
  have h:=eq_of_beq h
  split at h<;>(first|exact(Ln [k] (.w .x (.c 8)) [Gj (.n .x) (.c 2)] rfl h)|exact(Ln [k] (.w .x (.c 8)) [Gj (.n .x) (.c 1)] rfl h))
theorem Dm {X:Nat}:∀(ts:List T),(∀t∈ts,7*sz t+1<=X)->7*gx ts+ts.length<=ts.length*X:=by
 intro ts
 induction ts with
 |nil=>exact @λaa=>Zc _
 |cons t ts ih=>
  intro h;have h1:=h t Zt;have h2:=ih (mc h)
  show 7*(sz t+gx ts)+(ts.length+1)<=(ts.length+1)*X
  rw[Nat.add_mul];exact(Ln [sz t,gx ts,ts.length,ts.length*X,X] (.w (.a (.m 7 (.a .x .y)) (.p 1 .z)) (.a .u (.m 1 (.v 4)))) [Gl (.p 1 (.m 7 .x)) (.v 4),Gl (.a (.m 7 .y) .z) .u] rfl h1 h2)
theorem EM:∀(ts:List T),(∀t∈ts,ht t<=m)->hV ts<=m:=by
 intro ts
 induction ts with
 |nil=>exact @λaa=>Zc _
 |cons t ts ih=>
  intro h;have h1:=h t Zt;have h2:=ih (mc h)
  show max (ht t) (hV ts)<=m
  exact(max_le.mpr ⟨h1,h2⟩)
theorem NC {k X s:Nat} (hk:k<=8) (hX:1<=X) (h:7*s+k<=k*X):7*(1+s)+1<=X*8:=by
 obtain⟨j,hj⟩:∃j,k+j=8:=⟨8-k,by exact(Zk (Ln [k,8-k] (.w (.a .x .y) (.c 8)) [Ge (.a .y .x) (.c 8)] rfl (Zd (n:=8) (m:=k) hk)) (Ln [k,8-k] (.w (.c 8) (.a .x .y)) [Gf (.a .y .x) (.c 8)] rfl (Zd (n:=8) (m:=k) hk)))⟩
 have e:X*8=k*X+j*X:=by rw[<- hj,Nat.mul_add];exact Er (mul_comm X k) (Er (mul_comm X j) rfl)
 exact(Ln [s,X*8,k,k*X,j,j*1,j*X] (.w (.p 1 (.m 7 (.a (.c 1) .x))) .y) [Gl (.a (.m 7 .x) .z) .u,Gf (.a .z (.v 4)) (.c 8),Gl (.v 5) (.v 6),Gf .y (.a .u (.v 6)),Gf (.v 5) (.m 1 (.v 4))] rfl h hj (mul_le_mul_left _ hX) e (mul_comm j ((1:Nat))))
theorem mi (hc:∀f k,cnt cs f=some k->k<=8):∀(r:Nat) (t:T),gz ns cs r t=true->7*sz t+1<=8 ^ r/\ht t<=r:=by
 intro r
 induction r with
 |zero=>exact @λt h=>by cases h
 |succ r ih=>
  intro t h;have lf:7*1+1<=8 ^ (r+1)/\1<=r+1:=⟨by rw[Nat.pow_succ];exact(Ln [8 ^ r*8,8 ^ r] (.w (.p 1 (.m 7 (.c 1))) .x) [(8,.w (.c 1) .y),Gf .x (.m 8 .y)] rfl (Nat.pow_pos (by decide)) (mul_comm ((8:Nat) ^ r) ((8:Nat)))),by exact(L0 [r] (.c 1) (.p 1 .x) rfl)⟩
  have go:∀ps:List T,ps.length<=8->ps.all (gz ns cs r)=true->7*(1+gx ps)+1<=8 ^ (r+1)/\1+hV ps<=r+1:=λps h8 hp=>by
   rw[ZQ]at hp;refine⟨?_,?_⟩
   .rw[Nat.pow_succ]
    exact NC h8 (Nat.pow_pos (by decide)) (Dm ps λt ht=>(ih t (hp t ht)).1)
   .have:=EM ps λt ht=>(ih t (hp t ht)).2
    exact(L1 [hV ps,r] (.a (.c 1) .x) (.p 1 .y) .x .y rfl this)
  cases t with
  |val d=>exact lf
  |nam d=>exact lf
  |ref d=>exact lf
  |odd d=>exact lf
  |iff ps=>
   have h:(decide (ps.length=3)&&ps.all (gz ns cs r))=true:=h;rw[Z8,Y4]at h;exact go ps (Ln [ps.length] (.w .x (.c 8)) [Ge .x (.c 3)] rfl h.1) h.2
  |doo f ps=>
   have h:(gq f&&(bD f ps.length&&ps.all (gz ns cs r)))=true:=h;rw[Z8,Z8]at h;exact go ps (Mf h.2.1) h.2.2
  |call f ps=>
   have h:(decide (cnt cs f=some ps.length)&&ps.all (gz ns cs r))=true:=h;rw[Z8,Y4]at h;exact go ps (hc _ _ h.1) h.2
mutual
theorem nM:∀d:D,dF d=true->noDict d=true/\d.depth=dep d
 |.int i,_=>⟨rfl,rfl⟩
 |.tuple ds,h=>by
  obtain⟨a,b⟩:=pz ds h;exact⟨a,Y7 (· + 1) b⟩
 |.none,h=>by cases h
 |.bool _,h=>by cases h
 |.str _,h=>by cases h
 |.list _,h=>by cases h
 |.dict _,h=>by cases h
theorem pz:∀ds:List D,cS ds=true->noDicts ds=true/\depthAll ds=cV ds
 |[],_=>⟨rfl,rfl⟩
 |d::ds,h=>by
  have h:(dF d&&cS ds)=true:=h;rw[Z8]at h;obtain⟨a,b⟩:=nM d h.1;obtain⟨c,e⟩:=pz ds h.2;refine⟨by show(noDict d&&noDicts ds)=true;rw[a,c];rfl,?_⟩;show max d.depth (depthAll ds)=max (dep d) (cV ds)
  rw[b,e]
end
mutual
theorem yw:∀d:D,dep d<=wt d
 |.tuple ds=>by have:=jd ds;show cV ds+1<=1+dG ds;exact(L1 [cV ds,dG ds] (.p 1 .x) (.a (.c 1) .y) .x .y rfl this)
 |.int _=>Zc _
 |.none=>Zc _
 |.bool _=>Zc _
 |.str _=>Zc _
 |.list _=>Zc _
 |.dict _=>Zc _
theorem jd:∀ds:List D,cV ds<=dG ds
 |[]=>Zi _
 |d::ds=>by have h1:=yw d;have h2:=jd ds;show max (dep d) (cV ds)<=wt d+dG ds;exact max_le.mpr ⟨by exact(L1 [dep d,wt d,dG ds] .x (.a .y .z) .x .y rfl h1),by exact(L1 [cV ds,wt d,dG ds] .x (.a .y .z) .x .z rfl h2)⟩
end
structure Vg (d:D):Prop where
 g:dF d=true
 w:wt d<=50
theorem Vg.dp (h:Vg d):dep d<=50:=Zh (yw d) h.w
theorem Vl.vg (h:Vl d):Vg d:=⟨h.1,h.2.2⟩
inductive VK (d:D):Prop
 |int (i:Int):d = .int i->i.natAbs<2 ^ 64->VK d
 |tup (t:List D):d = .tuple t->cS t=true->dG t<=49->VK d
theorem Vg.k (h:Vg d):VK d:=by
 obtain⟨a,c⟩:=h;cases d with
 |int i=>
  have a:dZ i=true:=a;unfold dZ at a;simp only[Z8,Y4]at a;exact .int i rfl (Or.elim (Int.le_total 0 i) (λEt=>(bC [i.natAbs] [i] 1 (.w (.p 1 .x) (.c 18446744073709551616)) [Gi (.p 1 .x) (.c 1000000000000000000),Gj (.n .x) .x] rfl a.2 (ZW (a:=i) Et))) (λEt=>(bC [i.natAbs] [i] 1 (.w (.p 1 .x) (.c 18446744073709551616)) [Gi (.p 1 (.g (.c 1000000000000000000))) .x,Gj (.n .x) (.g .x)] rfl a.1 (Int.ofNat_natAbs_of_nonpos (a:=i) Et))))
 |tuple t=>exact .tup t rfl a (by have:wt (.tuple t)=1+dG t:=rfl;exact(Ln [dG t,wt (tuple t)] (.w .x (.c 49)) [Gl .y (.c 50),Gf .y (.a (.c 1) .x)] rfl c this))
 |none=>cases a
 |bool _=>cases a
 |str _=>cases a
 |list _=>cases a
 |dict _=>cases a
noncomputable def ic (a b:D):Bool:=(og a b).getD false
theorem tQ {x y:D} (hx:Vg x) (hy:Vg y):og x y=some (ic x y):=by
 have ok:lc x y=true:=by
  obtain⟨a,b⟩:=nM x hx.g;obtain⟨c,e⟩:=nM y hy.g;unfold lc;rw[a,c,Y5 (by rw[b,e];have:=hx.dp;exact(Ln [min (dep x) (dep y),dep x] (.w .x (.c 64)) [Gl .y (.c 50),Gl .x .y] rfl this (Nat.min_le_left (dep x) (dep y))))];rfl
 have:∃e,og x y=some e:=by
  rcases hx.k with⟨a,rfl,_⟩|⟨s,rfl,_⟩<;>rcases hy.k with⟨b,rfl,_⟩|⟨t,rfl,_⟩
  .exact⟨_,rfl⟩
  .exact⟨eqv (.int a) (.tuple t),by show(if lc (.int a) (.tuple t)=true then _ else _)=_;rw[Y0 ok]⟩
  .exact⟨eqv (.tuple s) (.int b),by show(if lc (.tuple s) (.int b)=true then _ else _)=_;rw[Y0 ok]⟩
  .exact⟨eqv (.tuple s) (.tuple t),by show(if lc (.tuple s) (.tuple t)=true then _ else _)=_;rw[Y0 ok]⟩
 obtain⟨e,h⟩:=this;unfold ic;rw[h];rfl
noncomputable abbrev fC (r:Except Str D):Option (Except Str Rv×List Mv.Slot):=match r with
 |.ok d=>some (.ok (.fz d),[])
 |.error e=>some (.error e,[])
noncomputable def lK (d:D):Bool:=dF d&&decide (wt d<=50)
noncomputable def cC (d:D):Except Str D:=match lK d with
 |true=>.ok d
 |false=>.error aD
theorem tA (h:lK d=true):Vg d:=by
 unfold lK at h;rw[Z8]at h;exact⟨h.1,YZ h.2⟩
theorem rL (n:Nat) (d:D) (h:dep d<n):cF P (n+2) false 3 [.fz d]=fC (cC d):=by
 have e:=pI n d h;unfold cC;cases hf:lK d with
 |true=>
  have e:cF P (n+1) false 1 [.fz d]=GA true:=e.trans (by rw[show(dF d&&decide (wt d<=50))=true from hf]);exact aM [.c 0 e] rfl
 |false=>
  have e:cF P (n+1) false 1 [.fz d]=GA false:=e.trans (by rw[show(dF d&&decide (wt d<=50))=false from hf]);exact aM [.c 0 e] rfl
noncomputable def nJ (op:Str) (a b:Int):Except Str D:=
 if op=gH then cC (.int (a+b)) else if op=eZ then cC (.int (a-b)) else if op=eY then cC (.int (a*b)) else if op=gI then .ok (.int (if a<b then 1 else 0))
 else if b=0 then .error aC else cC (.int (a.fdiv b))
noncomputable def HA (op:Str):D->D->Except Str D
 |.int a,.int b=>nJ op a b
 |_,_=>.error ao
noncomputable def mI:D->Except Str D
 |.int a=>if a<1 then .error aO else .ok (.int (a-1))
 |_=>.error ao
noncomputable def gG (op:Str):D->Except Str D
 |.tuple []=>if op=bA then .ok (.int 1) else .error aE
 |.tuple (d::r)=>if op=bA then .ok (.int 0) else if op=cM then .ok d else .ok (.tuple r)
 |_=>.error aL
noncomputable def sZ (a:D):D->Except Str D
 |.tuple l=>cC (.tuple (a::l))
 |_=>.error aL
noncomputable def dn (op:Str) (vs:List D):Except Str D:=if op=bh then cC (.tuple vs) else match vs with
 |[a]=>if op=eJ then mI a else gG op a
 |[a,b]=>if op=fT then .ok (.int (if ic a b then 1 else 0)) else if op=gJ then sZ a b else HA op a b
 |_=>.error aD
theorem nS:∀t:List D,t.length<=dG t:=by
 intro t
 induction t with
 |nil=>exact Zi _
 |cons d t ih=>have h1:=ih;have h2:=m5 d;show t.length+1<=wt d+dG t;exact(Ln [t.length,wt d,dG t] (.w (.p 1 .x) (.a .y .z)) [Gl .x .z,Gl (.c 1) .y] rfl h1 h2)
theorem jX {k:Str} (h:x≠k):au .eq (.str x) (.str k)=some false:=by rw[mP,Y6 h]
theorem Hw {k:Str} (h:x=k):au .eq (.str x) (.str k)=some true:=by rw[mP,Y5 h]
noncomputable abbrev vK (x:Str):Slot:=.fz (.str x)
theorem HD (m:Nat) (op a b:D) (h:kW .tup a=true\/(kW .tup a=false/\kW .tup b=true)):cF P (m+1) false 4 [.fz op,.fz a,.fz b]=fC (.error ao):=by
 rcases h with h|⟨h,h'⟩
 .exact aM [.t 1 h,.t 0 h] rfl
 .exact aM [.t 1 h,.t 1 h'] rfl
theorem Am (m:Nat) (a b:Int):cF P (m+1) false 4 [vK gH,.fz (.int a),.fz (.int b)]=fC (.ok (.int (a+b))):=by exact aM [] rfl
theorem wJ (m:Nat) (a b:Int):cF P (m+1) false 4 [vK eZ,.fz (.int a),.fz (.int b)]=fC (.ok (.int (a-b))):=by exact aM [] rfl
theorem wH (m:Nat) (a b:Int) (h:a.natAbs<2 ^ 64):cF P (m+1) false 4 [vK eY,.fz (.int a),.fz (.int b)]=fC (.ok (.int (a*b))):=by
 have e:op2 .mul (.int a) (.int b)=some (.fz (.int (a*b))):=gF h;exact aM [.v 10 e] rfl
theorem Ao (m:Nat) (a b:Int):cF P (m+1) false 4 [vK gI,.fz (.int a),.fz (.int b)]=fC (.ok (.int (if a<b then 1 else 0))):=by
 by_cases q:a<b
 .rw[Y0 q];exact aM [.b 12 (show au Cm.lt (int a) (int b)=some true by simp only[bB,q,Y2])] rfl
 .rw[Y1 q];exact aM [.b 12 (show au Cm.lt (int a) (int b)=some false by simp only[bB,q,Y3])] rfl
theorem wI (m:Nat) (a:Int):cF P (m+1) false 4 [vK fU,.fz (.int a),.fz (.int 0)]=fC (.error aC):=by exact aM [] rfl
theorem An (m:Nat) (a b:Int) (h:b.natAbs<2 ^ 64) (h0:b≠0):cF P (m+1) false 4 [vK fU,.fz (.int a),.fz (.int b)]=fC (.ok (.int (a.fdiv b))):=by
 have e:op2 .fdiv (.int a) (.int b)=some (.fz (.int (a.fdiv b))):=by rw[jA,Y0 ⟨h0,h⟩]
 have q:au .eq (.int b) (.int 0)=some false:=by rw[el,Y6 h0]
 exact aM [.b 12 q,.v 1 e] rfl
structure jU (op:Str):Prop where
 l:op≠bh
 d:op≠eJ
 s:eh op lW=false
 e:op≠fT
 j:op≠gJ
theorem eL (n:Nat) {op:Str} (h:jU op) (a b:D) (r:Except Str D) (h4:cF P (n+59) false 4 [vK op,.fz a,.fz b]=fC r) (hd:∀v,r = .ok v->dep v=0):cF P (n+60) false 8 [vK op,.fz (.list [a,b])]=fC (r.bind cC):=by
 have q1:=jX h.l;have q2:=jX h.d;have q4:=jX h.e;have q5:=jX h.j;have q3:=(Ig op).trans (Er h.s rfl);cases r with
 |error e=>exact aM [.b 0 q1,.b 1 q2,.b 1 q3,.b 1 q4,.b 1 q5,.c 3 h4] rfl
 |ok v=>
  have f:=rL (n+57) v (by refine Er (hd v rfl) ?_;exact Nat.succ_pos _);show _=fC (cC v)
  cases hf:cC v with
  |ok u=>rw[hf]at f;exact aM [.b 0 q1,.b 1 q2,.b 1 q3,.b 1 q4,.b 1 q5,.c 3 h4,.c 0 f] rfl
  |error e=>rw[hf]at f;exact aM [.b 0 q1,.b 1 q2,.b 1 q3,.b 1 q4,.b 1 q5,.c 3 h4,.c 0 f] rfl
theorem u7 (n:Nat) (vs:List D) (hd:cV vs<=50):cF P (n+60) false 8 [vK bh,.fz (.list vs)]=fC (cC (.tuple vs)):=by
 have f:=rL (n+57) (.tuple vs) (by show cV vs+1<n+57;exact(L1 [cV vs,n] (.p 1 (.p 1 .x)) (.p 57 .y) .x (.c 50) rfl hd));cases hf:cC (.tuple vs) with
 |ok u=>rw[hf]at f;exact aM [.c 3 f] rfl
 |error e=>rw[hf]at f;exact aM [.c 3 f] rfl
theorem Bo (m:Nat) (a:D) (h:Vg a):cF P (m+1) false 5 [.fz a]=fC (mI a):=by
 rcases h.k with⟨i,rfl,_⟩|⟨t,rfl,_⟩
 .show _=fC (if i<1 then .error aO else .ok (.int (i-1)))
  by_cases q:i<1
  .rw[Y0 q];exact aM [.b 2 (show au Cm.lt (int i) (int (1:Int))=some true by simp only[bB,q,Y2])] rfl
  .rw[Y1 q];exact aM [.b 2 (show au Cm.lt (int i) (int (1:Int))=some false by simp only[bB,q,Y3])] rfl
 .show _=fC (.error ao)
  exact aM [] rfl
theorem va (n:Nat) (a:D) (h:Vg a):cF P (n+60) false 8 [vK eJ,.fz (.list [a])]=fC (mI a):=by
 have f:=Bo (n+58) a h;cases hf:mI a with
 |ok u=>rw[hf]at f;exact aM [.c 5 f] rfl
 |error e=>rw[hf]at f;exact aM [.c 5 f] rfl
theorem rz (m:Nat) (op:D) (i:Int):cF P (m+1) false 6 [.fz op,.fz (.int i)]=fC (.error aL):=by exact aM [] rfl
theorem xe (m:Nat) (t:List D):cF P (m+1) false 6 [vK bA,.fz (.tuple t)]=fC (gG bA (.tuple t)):=by
 cases t with
 |nil=>show _=fC (.ok (.int 1));exact aM [] rfl
 |cons d r=>
  show _=fC (.ok (.int 0))
  have q:au .eq (.int ((d::r).length:Nat)) (.int 0)=some false:=by rw[mO];exact Y7 some (GC d r)
  exact aM [] rfl
theorem xd (m:Nat) (t:List D):cF P (m+1) false 6 [vK cM,.fz (.tuple t)]=fC (gG cM (.tuple t)):=by
 cases t with
 |nil=>show _=fC (.error aE);exact aM [] rfl
 |cons d r=>
  show _=fC (.ok d)
  have q:au .eq (.int ((d::r).length:Nat)) (.int 0)=some false:=by rw[mO];exact Y7 some (GC d r)
  exact aM [] rfl
theorem Az (m:Nat) (t:List D):cF P (m+1) false 6 [vK fi,.fz (.tuple t)]=fC (gG fi (.tuple t)):=by
 cases t with
 |nil=>show _=fC (.error aE);exact aM [] rfl
 |cons d r=>
  show _=fC (.ok (.tuple r))
  have q:au .eq (.int ((d::r).length:Nat)) (.int 0)=some false:=by rw[mO];exact Y7 some (GC d r)
  exact aM [.v 10 (o4 d r)] rfl
theorem gM (n:Nat) {op:Str} (h1:op≠bh) (h2:op≠eJ) (h3:eh op lW=true) (a:D) (r:Except Str D) (f:cF P (n+59) false 6 [vK op,.fz a]=fC r):cF P (n+60) false 8 [vK op,.fz (.list [a])]=fC r:=by
 have q1:=jX h1;have q2:=jX h2;have q3:au .isin (.str op) jF=some true:=(Ig op).trans (by rw[h3]);cases r with
 |ok u=>exact aM [.b 0 q1,.b 1 q2,.b 1 q3,.c 2 f] rfl
 |error e=>exact aM [.b 0 q1,.b 1 q2,.b 1 q3,.c 2 f] rfl
theorem u6 (n:Nat) (a b:D) (ha:Vg a) (hb:Vg b):cF P (n+60) false 8 [vK fT,.fz (.list [a,b])]=fC (.ok (.int (if ic a b then 1 else 0))):=by
 have e:au .eq a b=some (ic a b):=tQ ha hb;cases hs:ic a b with
 |true=>rw[hs]at e;show _=fC (.ok (.int 1));exact aM [.b 10 e] rfl
 |false=>rw[hs]at e;show _=fC (.ok (.int 0));exact aM [.b 10 e] rfl
theorem AN (m:Nat) (a b:D) (hb:Vg b):cF P (m+1) false 7 [.fz a,.fz b]=fC (match b with|.tuple l=>.ok (.tuple (a::l))|_=>.error aL):=by
 rcases hb.k with⟨i,rfl,_⟩|⟨t,rfl,_,hw⟩
 .exact aM [] rfl
 .have e:op2 .add (.tuple [a]) (.tuple t)=some (.fz (.tuple (a::t))):=by
   show(if [a].length+t.length<=Sz then some (Rv.fz (.tuple ([a]++t))) else none)=_
   refine Er (Y0 (by show 1+t.length<=16777216;exact(L1 [t.length] (.a (.c 1) .x) (.c 16777216) .x (.c 49) rfl (Zh (nS t) hw:t.length<=49)))) ?_;rfl
  exact aM [.v 3 e] rfl
theorem u8 (n:Nat) (a b:D) (ha:Vg a) (hb:Vg b):cF P (n+60) false 8 [vK gJ,.fz (.list [a,b])]=fC (sZ a b):=by
 have f:=AN (n+58) a b hb
 rcases hb.k with⟨i,rfl,_⟩|⟨t,rfl,_,hw⟩
 .exact aM [.c 12 f] rfl
 .show _=fC (cC (.tuple (a::t)))
  have e:=rL (n+57) (.tuple (a::t)) (by
   have h1:=ha.dp;have h2:=Zh (jd t) hw;exact(L1 [max (dep a) (cV t),n] (.p 1 (.p 1 .x)) (.p 57 .y) .x (.c 50) rfl (max_le.mpr ⟨h1,by exact(L1 [cV t] .x (.c 50) .x (.c 49) rfl h2)⟩)))
  cases hf:cC (.tuple (a::t)) with
  |ok u=>rw[hf]at e;exact aM [.c 12 f,.c 0 e] rfl
  |error x=>rw[hf]at e;exact aM [.c 12 f,.c 0 e] rfl
theorem rY {op:Str} (h:jU op) (a b:D):dn op [a,b]=HA op a b:=by
 unfold dn;rw[Y1 h.l];dsimp only;rw[Y1 h.e,Y1 h.j]
theorem sR:jU gH:=⟨by decide,by decide,by decide,by decide,by decide⟩
theorem pj:jU eZ:=⟨by decide,by decide,by decide,by decide,by decide⟩
theorem pi:jU eY:=⟨by decide,by decide,by decide,by decide,by decide⟩
theorem sS:jU gI:=⟨by decide,by decide,by decide,by decide,by decide⟩
theorem nG:jU fU:=⟨by decide,by decide,by decide,by decide,by decide⟩
theorem ro (a b:Int):nJ gH a b=cC (.int (a+b)):=Y0 rfl
theorem nP (a b:Int):nJ eZ a b=cC (.int (a-b)):=(Y1 (by decide)).trans (Y0 rfl)
theorem nO (a b:Int):nJ eY a b=cC (.int (a*b)):=(Y1 (by decide)).trans ((Y1 (by decide)).trans (Y0 rfl))
theorem rq (a b:Int):nJ gI a b = .ok (.int (if a<b then 1 else 0)):=(Y1 (by decide)).trans ((Y1 (by decide)).trans ((Y1 (by decide)).trans (Y0 rfl)))
theorem rp (a b:Int):nJ fU a b=if b=0 then .error aC else cC (.int (a.fdiv b)):=(Y1 (by decide)).trans ((Y1 (by decide)).trans ((Y1 (by decide)).trans (Y1 (by decide))))
theorem Cz (a b:Int):cC (.int (if a<b then 1 else 0)) = .ok (.int (if a<b then 1 else 0)):=by by_cases q:a<b<;>simp only[q,if_true,if_false]<;>rfl
inductive jl (op:Str):Prop
 |plus:op=gH->jl op
 |minus:op=eZ->jl op
 |times:op=eY->jl op
 |less:op=gI->jl op
 |over:op=fU->jl op
theorem jl.op {op:Str} (h:jl op):jU op:=by
 rcases h with rfl|rfl|rfl|rfl|rfl
 .exact sR
 .exact pj
 .exact pi
 .exact sS
 .exact nG
theorem Ag (n:Nat) {op:Str} (h:jl op) (a b:Int) (ha:a.natAbs<2 ^ 64) (hb:b.natAbs<2 ^ 64):cF P (n+60) false 8 [vK op,.fz (.list [.int a,.int b])]=fC (nJ op a b):=by
 rcases h with rfl|rfl|rfl|rfl|rfl
 .rw[ro];exact eL n sR _ _ _ (Am _ a b) λv e=>by refine Er (iE e).symm ?_;rfl
 .rw[nP];exact eL n pj _ _ _ (wJ _ a b) λv e=>by refine Er (iE e).symm ?_;rfl
 .rw[nO];exact eL n pi _ _ _ (wH _ a b ha) λv e=>by refine Er (iE e).symm ?_;rfl
 .rw[rq,<- Cz];exact eL n sS _ _ _ (Ao _ a b) λv e=>by refine Er (iE e).symm ?_;rfl
 .rw[rp]
  by_cases q:b=0
  .subst q;exact Er (Y0 rfl) (eL n nG _ _ _ (wI _ a) λv e=>by exact iX e)
  .exact Er (Y1 q) (eL n nG _ _ _ (An _ a b hb q) λv e=>by obtain rfl:=iE e;rfl)
theorem rj (n:Nat) {op:Str} (h:jl op) (a b:D) (hh:kW .tup a=true\/(kW .tup a=false/\kW .tup b=true)):cF P (n+60) false 8 [vK op,.fz (.list [a,b])]=fC (.error ao):=
 eL n h.op _ _ _ (HD _ _ a b hh) λv e=>by cases e
inductive BP (op:Str):Prop
 |num:jl op->BP op
 |same:op=fT->BP op
 |join:op=gJ->BP op
 |down:op=eJ->BP op
 |first:op=cM->BP op
 |rest:op=fi->BP op
 |empty:op=bA->BP op
 |list:op=bh->BP op
theorem KP {op:Str} (h:gq op=true):BP op:=by
 unfold gq at h
 rcases or_eq_true_iff.mp h with h|h
 .have:=bY.mp h
  simp only[Zv,Zp,or_false]at this
  rcases this with rfl|rfl|rfl|rfl|rfl|rfl|rfl
  .exact .num (.plus rfl)
  .exact .num (.minus rfl)
  .exact .num (.times rfl)
  .exact .num (.over rfl)
  .exact .num (.less rfl)
  .exact .same rfl
  .exact .join rfl
 .refine ag λG g=>?_
  rcases or_eq_true_iff.mp h with h|h
  .refine g ?_
   have:=bY.mp h;simp only[Zv,Zp,or_false]at this
   rcases this with rfl|rfl|rfl|rfl
   .exact .down rfl
   .exact .first rfl
   .exact .rest rfl
   .exact .empty rfl
  .exact g (.list (YZ h))
theorem fN {op:Str} {k:Nat} (h:bD op k=true) (h1:op≠bh) (h2:eh op jv=true):k=2:=by
 unfold bD at h;rw[Y1 h1,Y0 h2]at h;have:=eq_of_beq h;exact(Zk (Ln [k] (.w .x (.c 2)) [Gj (.n .x) (.c 2)] rfl this) (Ln [k] (.w (.c 2) .x) [Gk (.n .x) (.c 2)] rfl this))
theorem ed {op:Str} {k:Nat} (h:bD op k=true) (h1:op≠bh) (h2:eh op jv=false):k=1:=by
 unfold bD at h;rw[Y1 h1,Y1 (by rw[h2];decide)]at h;have:=eq_of_beq h;exact(Zk (Ln [k] (.w .x (.c 1)) [Gj (.n .x) (.c 1)] rfl this) (Ln [k] (.w (.c 1) .x) [Gk (.n .x) (.c 1)] rfl this))
theorem Kz (h:∀v∈vs,Vg v):cS vs=true/\cV vs<=50:=by
 induction vs with
 |nil=>exact⟨rfl,Zc _⟩
 |cons d ds ih=>
  obtain⟨a,b⟩:=ih (mc h)
  have hd:=h d Zt;exact⟨by show(dF d&&cS ds)=true;rw[a,hd.g];rfl,max_le.mpr ⟨hd.dp,b⟩⟩
theorem two (h:∀d∈vs,Vg d) (hl:vs.length=2):∃x y,vs=[x,y]/\Vg x/\Vg y:=by
 obtain⟨x,y,rfl⟩:=Ax hl;exact⟨x,y,rfl,h x (.head _),h y (.tail _ (.head _))⟩
theorem one {vs:List D} (h:∀d∈vs,Vg d) (hl:vs.length=1):∃x,vs=[x]/\Vg x:=by
 obtain⟨x,rfl⟩:=HV hl;exact⟨x,rfl,h x (.head _)⟩
theorem oq (vs:List D):dn bh vs=cC (.tuple vs):=Y0 rfl
theorem ou (a:D):dn eJ [a]=mI a:=(Y1 (by decide)).trans (Y0 rfl)
theorem li (a:D):dn cM [a]=gG cM a:=(Y1 (by decide)).trans (Y1 (by decide))
theorem oo (a:D):dn fi [a]=gG fi a:=(Y1 (by decide)).trans (Y1 (by decide))
theorem lj (a:D):dn bA [a]=gG bA a:=(Y1 (by decide)).trans (Y1 (by decide))
theorem om (a b:D):dn fT [a,b] = .ok (.int (if ic a b then 1 else 0)):=(Y1 (by decide)).trans (Y0 rfl)
theorem ot (a b:D):dn gJ [a,b]=sZ a b:=(Y1 (by decide)).trans ((Y1 (by decide)).trans (Y0 rfl))
theorem jl.pair {op:Str} (h:jl op):eh op jv=true:=by rcases h with rfl|rfl|rfl|rfl|rfl<;>decide
theorem Bq (n:Nat) {op:Str} (ho:gq op=true) (hl:bD op vs.length=true) (hv:∀v∈vs,Vg v):cF P (n+60) false 8 [vK op,.fz (.list vs)]=fC (dn op vs):=by
 rcases KP ho with h|rfl|rfl|rfl|rfl|rfl|rfl|rfl
 .obtain⟨a,b,rfl,ha,hb⟩:=two hv (fN hl h.op.l h.pair)
  rw[rY h.op]
  rcases ha.k with⟨i,rfl,hi⟩|⟨s,rfl,_⟩<;>rcases hb.k with⟨j,rfl,hj⟩|⟨t,rfl,_⟩
  .exact Ag n h i j hi hj
  .exact rj n h _ _ (.inr ⟨rfl,rfl⟩)
  .exact rj n h _ _ (.inl rfl)
  .exact rj n h _ _ (.inl rfl)
 .obtain⟨a,b,rfl,ha,hb⟩:=two hv (fN hl (by decide) (by decide))
  rw[om];exact u6 n a b ha hb
 .obtain⟨a,b,rfl,ha,hb⟩:=two hv (fN hl (by decide) (by decide))
  rw[ot];exact u8 n a b ha hb
 .obtain⟨a,rfl,ha⟩:=one hv (ed hl (by decide) (by decide))
  rw[ou];exact va n a ha
 .obtain⟨a,rfl,ha⟩:=one hv (ed hl (by decide) (by decide))
  rw[li];refine gM n (by decide) (by decide) (by decide) a _ ?_
  rcases ha.k with⟨i,rfl,hi⟩|⟨s,rfl,_⟩
  .exact rz _ _ i
  .exact xd _ s
 .obtain⟨a,rfl,ha⟩:=one hv (ed hl (by decide) (by decide))
  rw[oo];refine gM n (by decide) (by decide) (by decide) a _ ?_
  rcases ha.k with⟨i,rfl,hi⟩|⟨s,rfl,_⟩
  .exact rz _ _ i
  .exact Az _ s
 .obtain⟨a,rfl,ha⟩:=one hv (ed hl (by decide) (by decide))
  rw[lj];refine gM n (by decide) (by decide) (by decide) a _ ?_
  rcases ha.k with⟨i,rfl,hi⟩|⟨s,rfl,_⟩
  .exact rz _ _ i
  .exact xe _ s
 .rw[oq];exact u7 n vs (Kz hv).2
noncomputable abbrev d8 (d:D):Option (Except Str Rv×List Mv.Slot):=some (.ok (.fz d),[])
noncomputable abbrev b3 (r:Except Str D):D:=match r with
 |.ok d=>.tuple [.bool true,d]
 |.error e=>.tuple [.bool false,.str e]
theorem Dc (n:Nat) (a0:Slot) (ih:∀d:D,dep d<n->cF P n false 14 [.fz d]=d8 (.int (wt d))):∀(ds:List D) (s1:Slot),cV ds<n->
  bH ⟨P.glob,cF P n,[],false⟩ [a0,s1] (.call 14 [af 1]) (.one 1) [] ds=some (.ok (ds.map λd=>.int (wt d)),[a0,.no]):=by
 intro ds
 induction ds with
 |nil=>exact @λs1 aa=>by rw[cP];rfl
 |cons d ds IH=>
  intro s1 h;have h:max (dep d) (cV ds)<n:=h;have q:=IH (.fz d) (Zf (Nat.le_max_right _ _) h);have e:=ih d (Zf (Nat.le_max_left _ _) h);rw[Zz];exact y4 [.c 0 e,.cp 0 q] rfl
theorem zy:∀(ds:List D) (a:Int),qR a (ds.map λd=>.int (wt d))=some (.int (a+dG ds)):=by
 intro ds
 induction ds with
 |nil=>exact @λa=>by show some (int a)=some (.int (a+((0:Nat):Int)));rw[Int.natCast_zero,ZY]
 |cons d ds ih=>
  intro a;show qR (a+wt d) _=some (.int (a+((wt d+dG ds:Nat):Int)))
  rw[ih,ZV,Int.add_assoc]
theorem t8:∀(n:Nat) (d:D),dep d<n->cF P n false 14 [.fz d]=d8 (.int (wt d)):=by
 intro n
 induction n with
 |zero=>intro d h;exact absurd h (Nat.not_lt_zero _)
 |succ n ih=>
  intro d h;cases d with
  |tuple ds=>
   have e:ke .sum [.list (ds.map λd=>.int (wt d))]=some (.fz (.int (dG ds))):=by
    rw[JA,zy,ZR];rfl
   have e':op2 .add (.int 1) (.int (dG ds))=some (.fz (.int (wt (.tuple ds)))):=by
    show some (Rv.fz (.int (1+(dG ds:Int))))=some (.fz (.int ((1+dG ds:Nat):Int)))
    rw[ZV];rfl
   exact aM [.cp 3 ((Dc n (.fz (.tuple ds)) ih ds .no (Nat.lt_of_succ_lt_succ h))),.v 0 e,.v 0 e'] rfl
  |int i=>show _=d8 (.int 1);exact aM [] rfl
  |none=>show _=d8 (.int 1);exact aM [] rfl
  |bool b=>show _=d8 (.int 1);exact aM [] rfl
  |str b=>show _=d8 (.int 1);exact aM [] rfl
  |list b=>show _=d8 (.int 1);exact aM [] rfl
  |dict b=>show _=d8 (.int 1);exact aM [] rfl
theorem pV (h:lK d=true):cC d = .ok d:=by unfold cC;rw[h]
theorem pW (h:lK d=false):cC d = .error aD:=by unfold cC;rw[h]
theorem pG (n:Nat) (ds:List D) (hg:cS ds=true) (hd:cV ds<=50):cF P (n+53) false 15 [.fz (.tuple ds)]=d8 (b3 (cC (.tuple ds))):=by
 have e:=t8 (n+52) (.tuple ds) (by show cV ds+1<n+52;exact(L1 [cV ds,n] (.p 1 (.p 1 .x)) (.p 52 .y) .x (.c 50) rfl hd));have hb:lK (.tuple ds)=decide (wt (.tuple ds)<=50):=by show(cS ds&&_)=_;refine Er hg ?_;rfl
 by_cases q:wt (.tuple ds)<=50
 .refine Er (pV (hb.trans (Y5 q))) ?_
  have q1:au .le (.int (wt (.tuple ds))) (.int 50)=some true:=by rw[BH,Y5 (by exact(Ln [wt (tuple ds)] (.i (.n .x) (.c 50)) [Gl .x (.c 50)] rfl q))]
  have q2:au .gt (.int (wt (.tuple ds))) (.int 50)=some false:=by rw[eR,Y6 (by exact(λEu=>(Lf [wt (tuple ds)] [Gl .x (.c 50),Gi (.p 1 (.c 50)) (.n .x)] rfl q Eu)))]
  exact aM [.c 2 e,.b 0 q1,.c 0 e,.b 0 q2] rfl
 .refine Er (pW (hb.trans (Y6 q))) ?_
  have q1:au .le (.int (wt (.tuple ds))) (.int 50)=some false:=by rw[BH,Y6 (by exact(λwS=>(Lf [wt (tuple ds)] [Gl (.p 1 (.c 50)) .x,Gi (.n .x) (.c 50)] rfl (Nat.not_le.mp q) wS)))]
  have q2:au .gt (.int (wt (.tuple ds))) (.int 50)=some true:=by rw[eR,Y5 (by exact(Ln [wt (tuple ds)] (.i (.p 1 (.c 50)) (.n .x)) [Gl (.p 1 (.c 50)) .x] rfl (Nat.not_le.mp q)))]
  exact aM [.c 2 e,.b 0 q1,.c 0 e,.b 0 q2] rfl
theorem iW (m:Nat) (i:Int):cF P (m+1) false 15 [.fz (.int i)]=d8 (b3 (cC (.int i))):=by
 have hb:lK (.int i)=decide ((i.natAbs:Int)<1000000000000000000):=by
  show(dZ i&&decide ((1:Nat)<=50))=_
  unfold dZ
  by_cases q:(i.natAbs:Int)<1000000000000000000
  .rw[Y5 q];refine Er (Y5 (by exact(Or.elim (Int.le_total 0 i) (λrt=>(Li [i] (.i (.p 1 (.g (.c 1000000000000000000))) .x) [Gi (.c 0) .x] rfl rt)) (λrt=>(bC [i.natAbs] [i] 1 (.i (.p 1 (.g (.c 1000000000000000000))) .x) [Gi (.p 1 (.n .x)) (.c 1000000000000000000),Gk (.n .x) (.g .x)] rfl q (Int.ofNat_natAbs_of_nonpos (a:=i) rt)))))) ?_;refine Er (Y5 (by exact(Or.elim (Int.le_total 0 i) (λrt=>(bC [i.natAbs] [i] 1 (.i (.p 1 .x) (.c 1000000000000000000)) [Gi (.p 1 (.n .x)) (.c 1000000000000000000),Gk (.n .x) .x] rfl q (ZW (a:=i) rt))) (λrt=>(Li [i] (.i (.p 1 .x) (.c 1000000000000000000)) [Gi .x (.c 0)] rfl rt))))) ?_;rfl
  .rw[Y6 q]
   by_cases q1: -1000000000000000000<i
   .refine Er (Y6 (p:=i<1000000000000000000) (λHH=>(Or.elim (Int.le_total 0 i) (λrr=>(jY [i.natAbs] [i] [Gi (.c 1000000000000000000) (.n .x),Gi (.p 1 .x) (.c 1000000000000000000),Gj (.n .x) .x] rfl (Int.not_lt.mp q) HH (ZW (a:=i) rr))) (λrr=>(jY [i.natAbs] [i] [Gi (.c 1000000000000000000) (.n .x),Gi (.p 1 .x) (.c 1000000000000000000),Gj (.n .x) .x] rfl (Int.not_lt.mp q) HH (ZW (a:=i) (bC [i.natAbs] [i] 0 (.i (.c 0) .x) [Gi (.c 1000000000000000000) (.n .x),Gi (.p 1 (.g (.c 1000000000000000000))) .x,Gj (.n .x) (.g .x)] rfl (Int.not_lt.mp q) q1 (Int.ofNat_natAbs_of_nonpos (a:=i) rr)))))))) ?_;rw[Bool.and_false];rfl
   .refine Er (Y6 q1) ?_;rfl
 have e0:=JC i;generalize ha:(i.natAbs:Int)=a at hb e0;clear ha
 by_cases q:a<1000000000000000000
 .refine Er (pV (hb.trans (Y5 q))) ?_
  have q1:au .lt (.int a) (.int 1000000000000000000)=some true:=by rw[bB,Y5 q]
  have q2:au .ge (.int a) (.int 1000000000000000000)=some false:=by rw[FM,Y6 (by exact(λwS=>(jY [] [a] [Gi (.p 1 .x) (.c 1000000000000000000),Gi (.c 1000000000000000000) .x] rfl q wS)))]
  exact aM [.v 2 e0,.b 1 q1,.v 0 e0,.b 1 q2] rfl
 .refine Er (pW (hb.trans (Y6 q))) ?_
  have q1:au .lt (.int a) (.int 1000000000000000000)=some false:=by rw[bB,Y6 q]
  have q2:au .ge (.int a) (.int 1000000000000000000)=some true:=by rw[FM,Y5 (by exact(Li [a] (.i (.c 1000000000000000000) .x) [Gi (.c 1000000000000000000) .x] rfl (Int.not_lt.mp q)))]
  exact aM [.v 2 e0,.b 1 q1,.v 0 e0,.b 1 q2] rfl
theorem xi (m:Nat) (op a b:D) (h:kW .tup a=true\/(kW .tup a=false/\kW .tup b=true)):cF P (m+1) false 16 [.fz op,.fz a,.fz b]=d8 (b3 (.error ao)):=by
 rcases h with h|⟨h,h'⟩
 .exact aM [.t 1 h,.t 0 h] rfl
 .exact aM [.t 1 h,.t 1 h'] rfl
theorem xg (m:Nat) (a:Int):cF P (m+1) false 16 [vK fU,.fz (.int a),.fz (.int 0)]=d8 (b3 (.error aC)):=by exact aM [] rfl
theorem AD (m:Nat) (a b:Int) (h:b.natAbs<2 ^ 64) (h0:b≠0):cF P (m+2) false 16 [vK fU,.fz (.int a),.fz (.int b)]=d8 (b3 (cC (.int (a.fdiv b)))):=by
 have e:op2 .fdiv (.int a) (.int b)=some (.fz (.int (a.fdiv b))):=by rw[jA,Y0 ⟨h0,h⟩]
 have q:au .eq (.int b) (.int 0)=some false:=by rw[el,Y6 h0]
 have f:=iW m (a.fdiv b);exact aM [.b 6 q,.v 1 e,.c 0 f] rfl
theorem AE (m:Nat) (a b:Int):cF P (m+1) false 16 [vK gI,.fz (.int a),.fz (.int b)]=d8 (b3 (.ok (.int (if a<b then 1 else 0)))):=by
 by_cases q:a<b
 .rw[Y0 q];exact aM [.b 8 (show au Cm.lt (int a) (int b)=some true by simp only[bB,q,Y2])] rfl
 .rw[Y1 q];exact aM [.b 8 (show au Cm.lt (int a) (int b)=some false by simp only[bB,q,Y3])] rfl
theorem AC (m:Nat) (a b:Int) (h:a.natAbs<2 ^ 64):cF P (m+2) false 16 [vK gH,.fz (.int a),.fz (.int b)]=d8 (b3 (cC (.int (a+b)))):=by
 have e:op2 .mul (.int a) (.int b)=some (.fz (.int (a*b))):=gF h;have f:=iW m (a+b);exact aM [.v 10 e,.c 1 f] rfl
theorem xj (m:Nat) (a b:Int) (h:a.natAbs<2 ^ 64):cF P (m+2) false 16 [vK eZ,.fz (.int a),.fz (.int b)]=d8 (b3 (cC (.int (a-b)))):=by
 have e:op2 .mul (.int a) (.int b)=some (.fz (.int (a*b))):=gF h;have f:=iW m (a-b);exact aM [.v 10 e,.c 1 f] rfl
theorem xf (m:Nat) (a b:Int) (h:a.natAbs<2 ^ 64):cF P (m+2) false 16 [vK eY,.fz (.int a),.fz (.int b)]=d8 (b3 (cC (.int (a*b)))):=by
 have e:op2 .mul (.int a) (.int b)=some (.fz (.int (a*b))):=gF h;have f:=iW m (a*b);exact aM [.v 10 e,.c 1 f] rfl
theorem Ez (m:Nat) {op:Str} (h:jl op) (a b:Int) (ha:a.natAbs<2 ^ 64) (hb:b.natAbs<2 ^ 64):cF P (m+2) false 16 [vK op,.fz (.int a),.fz (.int b)]=d8 (b3 (nJ op a b)):=by
 rcases h with rfl|rfl|rfl|rfl|rfl
 .rw[ro];exact AC m a b ha
 .rw[nP];exact xj m a b ha
 .rw[nO];exact xf m a b ha
 .rw[rq];exact AE _ a b
 .rw[rp]
  by_cases q:b=0
  .subst q;rw[Y0 rfl];exact xg _ a
  .rw[Y1 q];exact AD m a b hb q
theorem Ar (m:Nat) (a:D) (h:Vg a):cF P (m+1) false 17 [vK eJ,.fz a]=d8 (b3 (mI a)):=by
 rcases h.k with⟨i,rfl,_⟩|⟨t,rfl,_⟩
 .show _=d8 (b3 (if i<1 then .error aO else .ok (.int (i-1))))
  by_cases q:i<1
  .refine Er (Y0 q) ?_
   have q1:au .gt (.int i) (.int 0)=some false:=by rw[eR,Y6 (by exact(λEv=>(jY [] [i] [Gi (.p 1 .x) (.c 1),Gi (.p 1 (.c 0)) .x] rfl q Ev)))]
   have q2:au .le (.int i) (.int 0)=some true:=by rw[BH,Y5 (by exact(Li [i] (.i .x (.c 0)) [Gi (.p 1 .x) (.c 1)] rfl q))]
   exact aM [.b 4 q1,.b 1 q2] rfl
  .refine Er (Y1 q) ?_
   have q1:au .gt (.int i) (.int 0)=some true:=by rw[eR,Y5 (by exact(Li [i] (.i (.p 1 (.c 0)) .x) [Gi (.c 1) .x] rfl (Int.not_lt.mp q)))]
   have q2:au .le (.int i) (.int 0)=some false:=by rw[BH,Y6 (by exact(λKU=>(jY [] [i] [Gi (.c 1) .x,Gi .x (.c 0)] rfl (Int.not_lt.mp q) KU)))]
   exact aM [.b 4 q1,.b 1 q2] rfl
 .exact aM [] rfl
theorem lt_int (m:Nat) {op:Str} (h:op≠eJ) (i:Int):cF P (m+1) false 17 [vK op,.fz (.int i)]=d8 (b3 (.error aL)):=by
 have q:=jX h;exact aM [.b 0 q] rfl
theorem wX (m:Nat) (t:List D):cF P (m+1) false 17 [vK bA,.fz (.tuple t)]=d8 (b3 (gG bA (.tuple t))):=by
 cases t with
 |nil=>show _=d8 (b3 (.ok (.int 1)));exact aM [] rfl
 |cons d r=>
  show _=d8 (b3 (.ok (.int 0)))
  have q:au .eq (.int ((d::r).length:Nat)) (.int 0)=some false:=by rw[mO];exact Y7 some (GC d r)
  exact aM [] rfl
theorem wW (m:Nat) (t:List D):cF P (m+1) false 17 [vK cM,.fz (.tuple t)]=d8 (b3 (gG cM (.tuple t))):=by
 cases t with
 |nil=>show _=d8 (b3 (.error aE));exact aM [] rfl
 |cons d r=>
  show _=d8 (b3 (.ok d))
  have q:au .eq (.int ((d::r).length:Nat)) (.int 0)=some false:=by rw[mO];exact Y7 some (GC d r)
  exact aM [] rfl
theorem Aq (m:Nat) (t:List D):cF P (m+1) false 17 [vK fi,.fz (.tuple t)]=d8 (b3 (gG fi (.tuple t))):=by
 cases t with
 |nil=>show _=d8 (b3 (.error aE));exact aM [] rfl
 |cons d r=>
  show _=d8 (b3 (.ok (.tuple r)))
  have q:au .eq (.int ((d::r).length:Nat)) (.int 0)=some false:=by rw[mO];exact Y7 some (GC d r)
  exact aM [.v 12 (o4 d r)] rfl
theorem Ih (x:Str):au .isin (.str x) (.tuple [(S [102,105,114,115,116]),(S [114,101,115,116]),(S [101,109,112,116,121]),(S [100,111,119,110])])=some (eh x Fv):=xy x
theorem KM {k:Str} (h:x≠k):au .ne (.str x) (.str k)=some true:=by rw[lR,e_strD,Y6 h];rfl
theorem nU (n:Nat) {op:Str} (h:jl op) (a b:D) (r:D) (f:cF P (n+59) false 16 [vK op,.fz a,.fz b]=d8 r):cF P (n+60) false 18 [vK op,.fz (.list [a,b])]=d8 r:=by
 have q1:=jX h.op.l;have q2:=jX h.op.e;have q4:=KM h.op.j;have q3:=(Ih op).trans (by rw[show eh op Fv=false from by rcases h with rfl|rfl|rfl|rfl|rfl<;>decide]:_=some false);exact aM [.b 0 q1,.b 1 q2,.b 1 q3,.b 1 q4,.c 3 f] rfl
theorem gV (n:Nat) {op:Str} (h1:op≠bh) (h2:op≠fT) (h3:eh op Fv=true) (a:D) (r:D) (f:cF P (n+59) false 17 [vK op,.fz a]=d8 r):cF P (n+60) false 18 [vK op,.fz (.list [a])]=d8 r:=by
 have q1:=jX h1;have q2:=jX h2;have q3:=(Ih op).trans (by rw[h3]:_=some true);exact aM [.b 0 q1,.b 1 q2,.b 1 q3,.c 2 f] rfl
theorem AA (n:Nat) (vs:List D) (r:D) (f:cF P (n+59) false 15 [.fz (.tuple vs)]=d8 r):cF P (n+60) false 18 [vK bh,.fz (.list vs)]=d8 r:=by exact aM [.c 3 f] rfl
theorem Ay (n:Nat) (a b:D) (ha:Vg a) (hb:Vg b):cF P (n+60) false 18 [vK fT,.fz (.list [a,b])]=d8 (b3 (.ok (.int (if ic a b then 1 else 0)))):=by
 have e:au .eq a b=some (ic a b):=tQ ha hb;cases hs:ic a b with
 |true=>rw[hs]at e;show _=d8 (b3 (.ok (.int 1)));exact aM [.b 6 e] rfl
 |false=>rw[hs]at e;show _=d8 (b3 (.ok (.int 0)));exact aM [.b 6 e] rfl
theorem AB (n:Nat) (a b:D) (ha:Vg a) (hb:Vg b):cF P (n+60) false 18 [vK gJ,.fz (.list [a,b])]=d8 (b3 (sZ a b)):=by
 rcases hb.k with⟨i,rfl,_⟩|⟨t,rfl,hg,hw⟩
 .exact aM [] rfl
 .have hl:t.length<=49:=Zh (nS t) hw
  have e:op2 .add (.tuple [a]) (.tuple t)=some (.fz (.tuple (a::t))):=by
   show(if [a].length+t.length<=Sz then some (Rv.fz (.tuple ([a]++t))) else none)=_
   refine Er (Y0 (by show 1+t.length<=16777216;exact(L1 [t.length] (.a (.c 1) .x) (.c 16777216) .x (.c 49) rfl hl))) ?_;rfl
  have f:=pG (n+6) (a::t) (by show(dF a&&cS t)=true;refine Er ha.g (Er hg ?_);rfl) (by
   exact max_le.mpr ⟨ha.dp,Zh (Zh (jd t) hw) (by decide)⟩)
  exact aM [.v 14 e,.c 0 f] rfl
theorem w9 (n:Nat) {op:Str} (ho:gq op=true) (hl:bD op vs.length=true) (hv:∀v∈vs,Vg v):cF P (n+60) false 18 [vK op,.fz (.list vs)]=d8 (b3 (dn op vs)):=by
 rcases KP ho with h|rfl|rfl|rfl|rfl|rfl|rfl|rfl
 .obtain⟨a,b,rfl,ha,hb⟩:=two hv (fN hl h.op.l h.pair)
  rw[rY h.op]
  rcases ha.k with⟨i,rfl,hi⟩|⟨s,rfl,_⟩<;>rcases hb.k with⟨j,rfl,hj⟩|⟨t,rfl,_⟩
  .exact nU n h _ _ _ (Ez (n+57) h i j hi hj)
  .exact nU n h _ _ _ (xi _ _ _ _ (.inr ⟨rfl,rfl⟩))
  .exact nU n h _ _ _ (xi _ _ _ _ (.inl rfl))
  .exact nU n h _ _ _ (xi _ _ _ _ (.inl rfl))
 .obtain⟨a,b,rfl,ha,hb⟩:=two hv (fN hl (by decide) (by decide))
  rw[om];exact Ay n a b ha hb
 .obtain⟨a,b,rfl,ha,hb⟩:=two hv (fN hl (by decide) (by decide))
  rw[ot];exact AB n a b ha hb
 .obtain⟨a,rfl,ha⟩:=one hv (ed hl (by decide) (by decide))
  rw[ou];exact gV n (by decide) (by decide) (by decide) a _ (Ar _ a ha)
 .obtain⟨a,rfl,ha⟩:=one hv (ed hl (by decide) (by decide))
  rw[li];refine gV n (by decide) (by decide) (by decide) a _ ?_
  rcases ha.k with⟨i,rfl,hi⟩|⟨s,rfl,_⟩
  .exact lt_int _ (by decide) i
  .exact wW _ s
 .obtain⟨a,rfl,ha⟩:=one hv (ed hl (by decide) (by decide))
  rw[oo];refine gV n (by decide) (by decide) (by decide) a _ ?_
  rcases ha.k with⟨i,rfl,hi⟩|⟨s,rfl,_⟩
  .exact lt_int _ (by decide) i
  .exact Aq _ s
 .obtain⟨a,rfl,ha⟩:=one hv (ed hl (by decide) (by decide))
  rw[lj];refine gV n (by decide) (by decide) (by decide) a _ ?_
  rcases ha.k with⟨i,rfl,hi⟩|⟨s,rfl,_⟩
  .exact lt_int _ (by decide) i
  .exact wX _ s
 .rw[oq];exact AA n vs _ (pG (n+6) vs (Kz hv).1 (Kz hv).2)
noncomputable def kv:List Str->List D->List (D×D)
 |p::ps,v::vs=>(.str p,v)::kv ps vs
 |_,_=>[]
theorem EA (vs:List D):kv [] vs=[]:=by cases vs<;>rfl
theorem EB:∀ {ps:List Str} {vs:List D},x∈ps->ps.length=vs.length-> ∃v,bS (kv ps vs) x=some v/\v∈vs:=by
 intro ps vs
 induction ps generalizing vs with
 |nil=>exact @λh aa=>by cases h
 |cons p ps ih=>
  cases vs with
  |nil=>exact @λaa h=>by cases h
  |cons v vs=>
    intro h hl
    by_cases q:p=x
    .exact⟨v,by show(if p=x then some v else _)=_;rw[Y0 q],Zt⟩
    .obtain⟨u,e,m⟩:=ih ((mem_cons.mp h).resolve_left λe=>q e.symm) (Nat.succ.inj hl)
     exact⟨u,by show(if p=x then some v else _)=_;rw[Y1 q,e],Zu _ m⟩
def Mm (acc:List (D×D)) (x:Str):Prop:= ∀p∈acc,p.1≠ .str x
theorem nK:∀ {acc:List (D×D)},Mm acc x->bS acc x=none
 |[]=>@λaa=>rfl
 |(k,d)::acc=>@λh=>by
  have ih:=nK (acc:=acc) (mc h)
  cases k with
  |str k=>
   show(if k=x then some d else bS acc x)=none
   rw[Y1 λ(e:k=x)=>h (.str k,d) Zt (by rw[e])];exact ih
  |_=>exact ih
theorem EC:∀(ps:List Str) (acc:List (D×D)) (vs:List D),ps.Nodup->ps.length=vs.length->(∀p∈ps,Mm acc p)->lO acc (m4 (ps.map .str) vs)=some (acc++kv ps vs):=by
 intro ps
 induction ps with
 |nil=>
  intro acc vs _ hl _;cases vs with
  |nil=>show some acc=_;rw[EA,ZO]
  |cons _ _=>cases hl
 |cons p ps ih=>
  intro acc vs nd hl h;cases vs with
  |nil=>cases hl
  |cons v vs=>
   show lO (fH acc p v) _=_
   have e:fH acc p v=acc++[(str p,v)]:=by unfold fH;refine Er (nK (h p Zt)) ?_;rfl
   refine Er e ?_;rw[ih _ vs (nodup_cons.mp nd).2 (Nat.succ.inj hl) λq hq=>?_]
   .rw[ZP];rfl
   .intro z hz
    rcases mem_append.mp hz with hz|hz
    .exact h q (Zu _ hq) z hz
    .refine Er (mem_singleton.mp hz) ?_;intro e;cases e;exact(nodup_cons.mp nd).1 hq
theorem rW {ps:List Str} (nd:ps.Nodup) (hl:ps.length=vs.length) (h6:ps.length<=6):ke .dzip [.tuple (ps.map .str),.tuple vs]=some (.own (.dict (kv ps vs))):=by
 show(if (ps.map str).length<=1000 then(lO [] (m4 (ps.map .str) vs)).map λkvs=>Rv.own (.dict kvs) else none)=_
 rw[Y0 (by rw[ZG];exact(L1 [ps.length] .x (.c 1000) .x (.c 6) rfl h6)),EC ps [] vs nd hl λp aa z hz=>by cases hz];rfl
theorem yo {ps:List Str} (nd:ps.Nodup) (hl:ps.length=vs.length) (h6:ps.length<=6):ke .dzip [.tuple (ps.map .str),.list vs]=some (.own (.dict (kv ps vs))):=rW nd hl h6
noncomputable abbrev Env:=List (D×D)
noncomputable def lk (env:Env) (x:Str):D:=(bS env x).getD .none
noncomputable def fnOf (fs:List ey) (f:Str):ey:=(fs.find? λg=>decide (g.1=f)).getD (⟨#[]⟩,[],.odd true)
noncomputable def oI (f:T->Nat->Except Str D×Nat):List T->Nat->Except Str (List D)×Nat
 |[],c=>(.ok [],c)
 |t::ts,c=>match f t c with
  |(.error e,c)=>(.error e,c)
  |(.ok v,c)=>match oI f ts c with
   |(.error e,c)=>(.error e,c)
   |(.ok vs,c)=>(.ok (v::vs),c)
noncomputable def Ij (R:Except Str D×Nat) (F:Nat->Bool->Except Str D×Nat):Except Str D×Nat:=match R with
 |(.error x,c)=>(.error x,c)
 |(.ok (.int i),c)=>if i=0 then F c true else F c false
 |(.ok _,c)=>(.error ao,c)
noncomputable def IZ (R:Except Str (List D)×Nat) (r:List D->Except Str D):Except Str D×Nat:=match R with
 |(.error x,c)=>(.error x,c)
 |(.ok vs,c)=>(r vs,c)
noncomputable def Jf (m:Nat) (R:Except Str (List D)×Nat) (F:Nat->List D->Except Str D×Nat):Except Str D×Nat:=match R with
 |(.error x,c)=>(.error x,c)
 |(.ok vs,c)=>if m<c+1 then(.error aB,c+1) else F c vs
noncomputable def tv (fs:List ey) (m:Nat):Nat->T->Env->Nat->Except Str D×Nat
 |0,_,_,c=>(.error ⟨#[]⟩,c)
 |n+1,t,env,c=>match t with
  |.val d=>(.ok d,c)
  |.nam x=>(.ok (lk env x),c)
  |.ref w=>(.error w,c)
  |.iff [a,b,e]=>Ij (tv fs m n a env c) λc x=>match x with
   |true=>tv fs m n e env c
   |false=>tv fs m n b env c
  |.doo op ps=>IZ (oI (λt c=>tv fs m n t env c) ps c) (dn op)
  |.call f ps=>Jf m (oI (λt c=>tv fs m n t env c) ps c) λc vs=>tv fs m n (fnOf fs f).2.2 (kv (fnOf fs f).2.1 vs) (c+1)
  |_=>(.error ⟨#[]⟩,c)
theorem Ba {v:D} (h:cC d = .ok v):Vg v:=by
 unfold cC at h;cases hf:lK d with
 |true=>rw[hf]at h;cases h;exact tA hf
 |false=>rw[hf]at h;cases h
theorem De (b:Bool):Vg (.int (if b then 1 else 0)):=by cases b<;>exact⟨by decide,by decide⟩
noncomputable abbrev iH:List Str:=aB::iy
def vG:Except Str D->Prop
 |.ok v=>Vg v
 |.error e=>e∈iH
theorem fV (d:D):vG (cC d):=by
 cases hf:cC d with
 |ok v=>exact Ba hf
 |error e=>
  unfold cC at hf;cases hb:lK d with
  |true=>rw[hb]at hf;cases hf
  |false=>rw[hb]at hf;cases hf;show aD∈iH;decide
theorem nR (op:Str) {a:D} (ha:Vg a):vG (gG op a):=by
 rcases ha.k with⟨i,rfl,_⟩|⟨t,rfl,hg,hw⟩
 .show aL∈iH;decide
 .cases t with
  |nil=>
   show vG (if op=bA then Except.ok (int 1) else Except.error aE)
   by_cases q:op=bA
   .exact Er (Y0 q) (De true)
   .refine Er (Y1 q) ?_;show aE∈iH;decide
  |cons d r=>
   show vG (if op=bA then Except.ok (int 0) else if op=cM then Except.ok d else Except.ok (.tuple r))
   have hg:(dF d&&cS r)=true:=hg;rw[Z8]at hg
   by_cases q:op=bA
   .exact Er (Y0 q) (De false)
   .refine Er (Y1 q) ?_
    by_cases q1:op=cM
    .exact Er (Y0 q1) (⟨hg.1,by exact(L1 [wt d,dG r] .x (.c 50) (.a .x .y) (.c 49) rfl hw)⟩)
    .exact Er (Y1 q1) (⟨hg.2,by show 1+dG r<=50;exact(Ln [dG r,wt d] (.w (.a (.c 1) .x) (.c 50)) [Gl (.a .y .x) (.c 49),Gl (.c 1) .y] rfl hw (m5 d))⟩)
theorem I5 {op:Str} (ho:gq op=true) (hl:bD op vs.length=true) (hv:∀v∈vs,Vg v):vG (dn op vs):=by
 rcases KP ho with hn|rfl|rfl|rfl|rfl|rfl|rfl|rfl
 .obtain⟨a,b,rfl,ha,hb⟩:=two hv (fN hl hn.op.l hn.pair)
  rw[rY hn.op];have no:ao∈iH:=by decide
  rcases ha.k with⟨i,rfl,hi⟩|⟨s,rfl,_⟩<;>rcases hb.k with⟨j,rfl,hj⟩|⟨t,rfl,_⟩<;>first|exact no|skip
  show vG (nJ op i j)
  rcases hn with rfl|rfl|rfl|rfl|rfl
  .rw[ro];exact fV _
  .rw[nP];exact fV _
  .rw[nO];exact fV _
  .rw[rq,<- Cz];exact fV _
  .rw[rp]
   by_cases q:j=0
   .refine Er (Y0 q) ?_;show aC∈iH;decide
   .exact Er (Y1 q) (fV _)
 .obtain⟨a,b,rfl,ha,hb⟩:=two hv (fN hl (by decide) (by decide))
  rw[om];exact De _
 .obtain⟨a,b,rfl,ha,hb⟩:=two hv (fN hl (by decide) (by decide))
  rw[ot]
  rcases hb.k with⟨j,rfl,hj⟩|⟨t,rfl,_⟩
  .show aL∈iH;decide
  .exact fV _
 .obtain⟨a,rfl,ha⟩:=one hv (ed hl (by decide) (by decide))
  rw[ou];have hg:=ha.g
  rcases ha.k with⟨i,rfl,hi⟩|⟨t,rfl,_⟩
  .show vG (if i<1 then Except.error aO else Except.ok (.int (i-1)))
   by_cases q:i<1
   .rw[Y0 q];show aO∈iH;decide
   .refine Er (Y1 q) ?_
    have hg:dZ i=true:=hg;unfold dZ at hg;rw[Z8]at hg;have g2:=YZ hg.2;exact⟨by show dZ (i-1)=true;unfold dZ;refine Er (Y5 (by exact(Li [i] (.i (.p 1 (.g (.c 1000000000000000000))) (.s .x (.c 1))) [Gi (.c 1) .x] rfl (Int.not_lt.mp q)))) (Er (Y5 (by exact(Li [i] (.i (.p 1 (.s .x (.c 1))) (.c 1000000000000000000)) [Gi (.p 1 .x) (.c 1000000000000000000)] rfl g2))) ?_);rfl,by show 1<=50;decide⟩
  .show ao∈iH;decide
 .obtain⟨a,rfl,ha⟩:=one hv (ed hl (by decide) (by decide))
  rw[li];exact nR _ ha
 .obtain⟨a,rfl,ha⟩:=one hv (ed hl (by decide) (by decide))
  rw[oo];exact nR _ ha
 .obtain⟨a,rfl,ha⟩:=one hv (ed hl (by decide) (by decide))
  rw[lj];exact nR _ ha
 .rw[oq];exact fV _
noncomputable abbrev cL (c m:Nat):Slot:=.own (.list [.int c,.int m])
noncomputable abbrev LZ (n:Nat):cR:=⟨P.glob,cF P n,[3],false⟩
noncomputable abbrev B4 (fs:List ey) (t:T) (env:Env) (c m:Nat):List Slot:=[.fz (fF fs),.fz (bz t),.fz (.dict env),cL c m]
noncomputable abbrev GY (m:Nat) (R:Except Str D×Nat):Option (Except Str Rv×List Slot):=some (.ok (.fz (b3 R.1)),[cL R.2 m])
structure Tok (N:Nat) (fs:List ey) (m:Nat) (env:Env) (t:T) (c:Nat) (R:Except Str D×Nat):Prop where
 run:cF P N false 19 (B4 fs t env c m)=GY m R
 vg:vG R.1
 up:c<=R.2
noncomputable abbrev B0:List St:=[.asg (.one 7) (.call 19 [af 0,af 6,af 2,.pl (.var 3)]),
   .iff (.not (.idx (af 7) (aj 0))) [.ret (af 7)] [],
   .app (.var 5) (.idx (af 7) (aj 1))]
inductive qB (N:Nat) (fs:List ey) (m:Nat) (env:Env) (a1 a4 a8 a9:Slot) (acc:List D) (s6 s7:Slot) (ts:List T) (c:Nat) (R:Except Str (List D)×Nat):Prop
 |ok (vs:List D):R.1 = .ok vs->cU (LZ N) [.fz (fF fs),a1,.fz (.dict env),cL c m,a4,.own (.list acc),s6,s7,a8,a9] (.one 6) B0 [6,7] (bu ts)=some (.ok .next,[.fz (fF fs),a1,.fz (.dict env),cL R.2 m,a4,.own (.list (acc++vs)),.no,.no,a8,a9])->
   (∀v∈vs,Vg v)->vs.length=ts.length->c<=R.2->qB N fs m env a1 a4 a8 a9 acc s6 s7 ts c R
 |err (e:Str) (s5 Hs Hr:Slot):R.1 = .error e->cU (LZ N) [.fz (fF fs),a1,.fz (.dict env),cL c m,a4,.own (.list acc),s6,s7,a8,a9] (.one 6) B0 [6,7] (bu ts)=some (.ok (.ret (.fz (b3 (.error e)))),[.fz (fF fs),a1,.fz (.dict env),cL R.2 m,a4,s5,Hs,Hr,a8,a9])->
   c<=R.2->e∈iH->qB N fs m env a1 a4 a8 a9 acc s6 s7 ts c R
theorem kj (f:T->Nat->Except Str D×Nat) (t:T) (ts:List T) (c:Nat):oI f (t::ts) c=match f t c with
  |(.error e,c)=>(.error e,c)
  |(.ok v,c)=>match oI f ts c with
   |(.error e,c)=>(.error e,c)
   |(.ok vs,c)=>(.ok (v::vs),c):=rfl
theorem gO (N:Nat) (fs:List ey) (m c0:Nat) (env:Env) (a1 a4 a8 a9:Slot) (f:T->Nat->Except Str D×Nat):∀(ts:List T) (acc:List D) (c:Nat) (s6 s7:Slot),(∀t∈ts, ∀c,c0<=c->Tok N fs m env t c (f t c))->c0<=c->acc.length+ts.length<=1000->
  qB N fs m env a1 a4 a8 a9 acc s6 s7 ts c (oI f ts c):=by
 intro ts
 induction ts with
 |nil=>exact @λacc c s6 s7 aa aA bF=>.ok [] rfl (by rw[ZO];rfl) (λv h=>by cases h) rfl (Zi _)
 |cons t ts IH=>
  intro acc c s6 s7 h hc hl;have h1:=h t Zt c hc;rw[kj]
  rcases hf:f t c with⟨r,c1⟩
  rw[hf]at h1;obtain⟨run,vg,up⟩:=h1;have hl:=hl;cases r with
  |error e=>
   refine .err e (.own (.list acc)) (.fz (bz t)) (.fz (b3 (.error e))) rfl ?_ up vg;exact jW [.c 0 run] rfl
  |ok v=>
   have ih:=IH (acc++[v]) c1 (.fz (bz t)) (.fz (b3 (.ok v))) (mc h) (Zh hc up) (by refine Er ZI ?_;show acc.length+1+ts.length<=1000;exact(L1 [acc.length,ts.length] (.a (.p 1 .x) .y) (.c 1000) (.a .x (.p 1 .y)) (.c 1000) rfl ‹acc.length+(t::ts).length<=(1000:Nat)›));have hs:acc.length<Sz:=by show acc.length<16777216;exact(L1 [acc.length,ts.length] (.p 1 .x) (.c 16777216) (.a .x (.p 1 .y)) (.c 1000) rfl ‹acc.length+(t::ts).length<=(1000:Nat)›)
   dsimp only
   rcases hg:oI f ts c1 with⟨r2,c2⟩
   have ih:=hg▸ih;cases ih with
   |ok vs e1 e2 e3 e4 e5=>
    cases e1;refine .ok (v::vs) rfl ?_ (λu hu=>?_) (Y7 (· + 1) e4) (Zh up e5)
    .rw[ZP]at e2
     exact jW [.c 0 run,.t 4 (show decide (acc.length<Sz)=true by simp only[hs,Y2]),.lp 0 e2] rfl
    .rcases mem_cons.mp hu with rfl|hu
     .exact vg
     .exact e3 u hu
   |err e s5 Hs Hr e1 e2 e3 e4=>
    cases e1;refine .err e s5 Hs Hr rfl ?_ (Zh up e3) e4;exact jW [.c 0 run,.t 4 (show decide (acc.length<Sz)=true by simp only[hs,Y2]),.lp 0 e2] rfl
structure cX (fs:List ey) (cs:List (Str×Nat)) (H:Nat) (f:Str) (k:Nat):Prop where
 find:(fs.find? λg=>decide (g.1=f))=some (fnOf fs f)
 len:(fnOf fs f).2.1.length=k
 k6:k<=6
 nd:(fnOf fs f).2.1.Nodup
 ok:gz (fnOf fs f).2.1 cs H (fnOf fs f).2.2=true
 ht:ht (fnOf fs f).2.2<=H
structure PW (fs:List ey) (cs:List (Str×Nat)) (H:Nat):Prop where
 fn:∀f k,cnt cs f=some k->cX fs cs H f k
 len:fs.length<=1000
def Gm (ns:List Str) (env:Env):Prop:= ∀x∈ns, ∃v,bS env x=some v/\Vg v
theorem ja {ps:List Str} (hl:ps.length=vs.length) (hv:∀v∈vs,Vg v):Gm ps (kv ps vs):=λx hx=>by
 obtain⟨v,e,m⟩:=EB hx hl;exact⟨v,e,hv v m⟩
noncomputable abbrev OT:List Ex:=[.cmp .eq (.idx (af 9) (aj 0)) (.idx (af 1) (aj 1))]
theorem Bz (N:Nat) (f:Str) (w d:D) (a0 a2 a3 a4 a5 a6 a7 a8:Slot):∀(fs:List ey) (s9:Slot),
  bH (LZ N) [a0,.fz (.tuple [w,.str f,d]),a2,a3,a4,a5,a6,a7,a8,s9] (af 9) (.one 9) OT (fs.map fG)=some (.ok ((fs.filter λg=>decide (g.1=f)).map fG),[a0,.fz (.tuple [w,.str f,d]),a2,a3,a4,a5,a6,a7,a8,.no]):=by
 intro fs
 induction fs with
 |nil=>exact @λs9=>by refine Er Zy ?_;rw[cP];rfl
 |cons g fs IH=>
  intro s9;refine Er Zz ?_
  by_cases q:g.1=f
  .have e:((g::fs).filter λg=>decide (g.1=f))=g::fs.filter λg=>decide (g.1=f):=List.filter_cons_of_pos (Er (Y5 q) rfl)
   refine Er e (Er Zz ?_);have q':=Hw q;exact y4 [.b 2 q',.cp 1 ((IH (.fz (fG g))))] rfl
  .have e:((g::fs).filter λg=>decide (g.1=f))=fs.filter λg=>decide (g.1=f):=List.filter_cons_of_neg (by refine Er (Y6 q) ?_;decide)
   refine Er e ?_;have q':=jX q;exact y4 [.b 2 q',.cp 1 ((IH (.fz (fG g))))] rfl
theorem xP {fs:List ey} {g:ey} (h:(fs.find? λg=>decide (g.1=f))=some g):bM ((fs.filter λg=>decide (g.1=f)).map fG) 0=some (fG g):=by
 rw[<- List.head?_filter]at h;show((fs.filter λg=>decide (g.1=f)).map fG)[0]? = _
 rw[ZJ,<- List.head?_eq_getElem?,h];rfl
theorem GU (N:Nat) (fs:List ey) (m:Nat) (env:Env) (c:Nat) (d:D) (h:Vg d):Tok (N+1) fs m env (.val d) c (.ok d,c):=⟨by exact aM [] rfl,h,Zi _⟩
theorem GW (N:Nat) (fs:List ey) (m:Nat) (env:Env) (c:Nat) (x:Str) (v:D) (e:bS env x=some v) (h:Vg v):Tok (N+1) fs m env (.nam x) c (.ok v,c):=by
 have e':nX (.dict env) (.str x)=some v:=e;exact⟨by exact aM [.d 7 e'] rfl,h,Zi _⟩
theorem GV (N:Nat) (fs:List ey) (m:Nat) (env:Env) (c:Nat) (x:Str) (hx:x∈iy):Tok (N+1) fs m env (.ref x) c (.error x,c):=⟨by exact aM [] rfl,Zu _ hx,Zi _⟩
theorem GX (N:Nat) (fs:List ey) (m:Nat) (env:Env) (c:Nat) (a b e:T) (R:Except Str D×Nat) (F:Nat->Bool->Except Str D×Nat) (ha:Tok N fs m env a c R) (hb:∀c',c<=c'->Tok N fs m env b c' (F c' false)) (he:∀c',c<=c'->Tok N fs m env e c' (F c' true)):
  Tok (N+1) fs m env (.iff [a,b,e]) c (Ij R F):=by
 obtain⟨r,c1⟩:=R;obtain⟨run,vg,up⟩:=ha;have up:c<=c1:=up;cases r with
 |error x=>exact⟨by exact aM [.c 13 run] rfl,vg,up⟩
 |ok v=>
  rcases Vg.k vg with⟨i,rfl,_⟩|⟨s,rfl,_⟩
  .by_cases q:i=0
   .have h2:=he c1 up
    subst q;show Tok _ _ _ _ _ _ (if (0:Int)=0 then F c1 true else F c1 false)
    refine Er (Y0 rfl) ?_
    rcases hF:F c1 true with⟨r2,c2⟩
    rw[hF]at h2;obtain⟨v9,GP,lU⟩:=h2;exact⟨by exact aM [.c 13 run,.c 11 v9] rfl,GP,Zh up lU⟩
   .have h2:=hb c1 up
    show Tok _ _ _ _ _ _ (if i=0 then F c1 true else F c1 false)
    refine Er (Y1 q) ?_;have q':au .eq (.int i) (.int 0)=some false:=by rw[el];exact Er (Y6 q) rfl
    rcases hF:F c1 false with⟨r2,c2⟩
    rw[hF]at h2;obtain⟨v9,GP,lU⟩:=h2;exact⟨by exact aM [.c 13 run,.b 7 q',.c 3 v9] rfl,GP,Zh up lU⟩
  .exact⟨by exact aM [.c 13 run] rfl,(show ao∈iH by decide),up⟩
theorem KC (N:Nat) (fs:List ey) (m:Nat) (env:Env) (c:Nat) (op:Str) (ps:List T) (R:Except Str (List D)×Nat) (r:List D->Except Str D) (hl:qB N fs m env (.fz (bz (.doo op ps))) .no .no .no [] .no .no ps c R)
  (hd:∀vs,R.1 = .ok vs->vs.length=ps.length->(∀v∈vs,Vg v)->cF P N false 18 [vK op,.fz (.list vs)]=d8 (b3 (r vs))/\vG (r vs)):
  Tok (N+1) fs m env (.doo op ps) c (IZ R r):=by
 obtain⟨q,c1⟩:=R;cases hl with
 |err e s5 s6 s7 e1 e2 e3 e4=>cases e1;exact⟨by exact aM [.lp 14 e2] rfl,e4,e3⟩
 |ok vs e1 e2 e3 e4 e5=>
  refine ag λG g=>?_
  cases e1;have Q:=hd vs rfl e4 e3;rw[Zq]at e2;refine g ?_;exact⟨by exact aM [.lp 14 e2,.c 4 (Q.1)] rfl,Q.2,e5⟩
theorem Dl (N:Nat) (fs:List ey) (m:Nat) (env:Env) (c:Nat) (f:Str) (ps:List T) (R:Except Str (List D)×Nat) (F:Nat->List D->Except Str D×Nat) (g:ey) (hg:(fs.find? λg=>decide (g.1=f))=some g) (hl:qB N fs m env (.fz (bz (.call f ps))) .no .no .no [] .no .no ps c R)
  (nd:g.2.1.Nodup) (h6:g.2.1.length<=6) (hn:g.2.1.length=ps.length)
  (hd:∀vs c',c<=c'-> ¬m<c'+1->vs.length=ps.length->(∀v∈vs,Vg v)->Tok N fs m (kv g.2.1 vs) g.2.2 (c'+1) (F c' vs)):
  Tok (N+1) fs m env (.call f ps) c (Jf m R F):=by
 obtain⟨q,c1⟩:=R;cases hl with
 |err e s5 s6 s7 e1 e2 e3 e4=>cases e1;exact⟨by exact aM [.lp 14 e2] rfl,e4,e3⟩
 |ok vs e1 e2 e3 e4 e5=>
  refine ag λG g1=>?_
  cases e1;rw[Zq]at e2;have ea:op2 .add (.int c1) (.int 1)=some (.fz (.int ((c1+1:Nat):Int))):=by rw[ZV];rfl
  by_cases z:m<c1+1
  .refine g1 ?_
   show Tok _ _ _ _ _ _ (if m<c1+1 then(.error aB,c1+1) else F c1 vs)
   refine Er (Y0 z) ?_;have qz:au .gt (.int ((c1+1:Nat):Int)) (.int m)=some true:=by rw[eR];exact Er (Y5 (by exact(Ln [m,c1] (.i (.p 1 (.n .x)) (.n (.p 1 .y))) [Gl (.p 1 .x) (.p 1 .y)] rfl z))) rfl
   exact⟨by exact aM [.lp 14 e2,.v 4 ea,.b 3 qz] rfl,(show aB∈iH by decide),le_succ_of_le e5⟩
  .refine g1 ?_
   show Tok _ _ _ _ _ _ (if m<c1+1 then(.error aB,c1+1) else F c1 vs)
   refine Er (Y1 z) ?_;have qz:au .gt (.int ((c1+1:Nat):Int)) (.int m)=some false:=by rw[eR];exact Er (Y6 (by exact(λHK=>(Lf [c1,m] [Gl (.p 1 .x) .y,Gi (.p 1 (.n .y)) (.n (.p 1 .x))] rfl (Nat.not_lt.mp z) HK)))) rfl
   have h2:=hd vs c1 e5 z e4 e3
   rcases hF:F c1 vs with⟨r2,c2⟩
   rw[hF]at h2;obtain⟨v9,GP,lU⟩:=h2;exact⟨by exact aM [.lp 14 e2,.v 4 ea,.b 3 qz,.cp 2 ((Bz N f (.str cv) (.tuple (bu ps)) (.fz (fF fs)) (.fz (.dict env)) (cL (c1+1) m) .no (.own (.list vs)) .no .no .no fs .no)),.d 0 ((xP hg)),.v 2 ((yo (vs:=vs) nd (hn.trans e4.symm) h6)),.c 0 v9] rfl,GP,Zh e5 (Zh (Nat.le_succ _) lU)⟩
theorem rB (t:T):1<=ht t:=by cases t<;>first|exact Zi 1|exact Zl 1 _
theorem gX {ps:List T} {t:T} (h:t∈ps):ht t<=hV ps:=by
 induction ps with
 |nil=>cases h
 |cons p ps ih=>
  show ht t<=max (ht p) (hV ps)
  rcases mem_cons.mp h with rfl|h
  .exact Nat.le_max_left _ _
  .exact Zh (ih h) (Nat.le_max_right _ _)
def En (H m n:Nat) (t:T) (c:Nat):Prop:=ht t+(H+1)*(m+1-c)<=n
theorem En.sub {H c c':Nat} {t u:T} (h:En H m (n+1) t c) (hu:ht u+1<=ht t) (hc:c<=c'):En H m n u c':=by
 unfold En at *;have:(H+1)*(m+1-c')<=(H+1)*(m+1-c):=mul_le_mul_left _ (Or.elim (Nat.le_total c' (m+(1:Nat))) (λjN=>(Ln [m+1-c',m+1-c,c,c',m] (.w .x .y) [Gl .z .u,Ge (.a .x .u) (.p 1 (.v 4)),Gf (.a .y .z) (.p 1 (.v 4))] rfl hc (Zd (n:=m+(1:Nat)) (m:=c') jN) (Zd (n:=m+(1:Nat)) (m:=c) (Ln [c,m,c'] (.w .x (.p 1 .y)) [Gl .x .z,Gl .z (.p 1 .y)] rfl hc jN)))) (λjN=>(Ln [m+1-c',m+1-c] (.w .x .y) [Ge .x (.c 0)] rfl (Nat.sub_eq_zero_of_le (n:=m+(1:Nat)) (m:=c') jN))));exact(Ln [ht u,(H+1)*(m+1-c'),n,ht t,(H+1)*(m+1-c)] (.w (.a .x .y) .z) [Gl (.a .u (.v 4)) (.p 1 .z),Gl (.p 1 .x) .u,Gl .y (.v 4)] rfl h hu this)
theorem En.call {H c c':Nat} {t u:T} (h:En H m (n+1) t c) (hu:ht u<=H) (hc:c<=c') (hm:¬m<c'+1):En H m n u (c'+1):=by
 unfold En at *;have h1:(H+1)*(m+1-c')<=(H+1)*(m+1-c):=mul_le_mul_left _ (Ln [m+1-c',m+1-c,c,c',m] (.w .x .y) [Gl .z .u,Ge (.a .x .u) (.p 1 (.v 4)),Gf (.a .y .z) (.p 1 (.v 4))] rfl hc (Zd (n:=m+(1:Nat)) (m:=c') (L1 [c',m] .x (.p 1 .y) (.p 1 .x) .y rfl (Nat.not_lt.mp hm))) (Zd (n:=m+(1:Nat)) (m:=c) (Ln [c,m,c'] (.w .x (.p 1 .y)) [Gl .x .z,Gl (.p 1 .z) .y] rfl hc (Nat.not_lt.mp hm))));have h2:m+1-c'=(m+1-(c'+1))+1:=by exact(Zk (Ln [m+1-c',m+1-(c'+1),c',m] (.w .x (.p 1 .y)) [Ge (.a .x .z) (.p 1 .u),Gf (.a .y (.p 1 .z)) (.p 1 .u)] rfl (Zd (n:=m+(1:Nat)) (m:=c') (L1 [c',m] .x (.p 1 .y) (.p 1 .x) .y rfl (Nat.not_lt.mp hm))) (Zd (n:=m+(1:Nat)) (m:=c'+(1:Nat)) (L1 [c',m] (.p 1 .x) (.p 1 .y) (.p 1 .x) .y rfl (Nat.not_lt.mp hm)))) (Ln [m+1-(c'+1),m+1-c',c',m] (.w (.p 1 .x) .y) [Ge (.a .x (.p 1 .z)) (.p 1 .u),Gf (.a .y .z) (.p 1 .u)] rfl (Zd (n:=m+(1:Nat)) (m:=c'+(1:Nat)) (L1 [c',m] (.p 1 .x) (.p 1 .y) (.p 1 .x) .y rfl (Nat.not_lt.mp hm))) (Zd (n:=m+(1:Nat)) (m:=c') (L1 [c',m] .x (.p 1 .y) (.p 1 .x) .y rfl (Nat.not_lt.mp hm)))))
 rw[h2,Nat.mul_add,Nat.mul_one]at h1;have:=rB t;exact(Ln [ht u,(H+1)*(m+1-(c'+1)),n,ht t,(H+1)*(m+1-c),H] (.w (.a .x .y) .z) [Gl (.a .u (.v 4)) (.p 1 .z),Gl .x (.v 5),Gl (.a .y (.p 1 (.v 5))) (.v 4),Gl (.c 1) .u] rfl h hu h1 this)
theorem kq {fs:List ey} {H:Nat} (pw:PW fs cs H):∀(n:Nat) (t:T) (env:Env) (c:Nat) (ns:List Str) (r:Nat),gz ns cs r t=true->Gm ns env->En H m n t c->Tok (n+61) fs m env t c (tv fs m n t env c):=by
 intro n
 induction n with
 |zero=>intro t env c ns r _ _ h;exact absurd (Zh (rB t) (Zh (Zl _ _) h)) (by decide)
 |succ n ih=>
  intro t env c ns r hb hv he;cases r with
  |zero=>cases hb
  |succ r=>
   cases t with
   |val d=>
    exact GU (n+61) fs m env c d (tA hb)
   |nam x=>
    refine aX (hv x (bY.mp hb)) λv Q=>?_
    show Tok _ _ _ _ _ _ (.ok (lk env x),c)
    have:lk env x=v:=by unfold lk;refine Er Q.1 ?_;rfl
    exact Er this (GW (n+61) fs m env c x v Q.1 Q.2)
   |ref x=>
    exact GV (n+61) fs m env c x (bY.mp hb)
   |iff ps=>
    have hb:(decide (ps.length=3)&&ps.all (gz ns cs r))=true:=hb;rw[Z8]at hb;obtain⟨h3,ha⟩:=hb;refine ag λG g=>?_
    refine iM (HU (YZ h3)) λa b e q=>?_;subst q
    refine g ?_
    .have hh:∀u∈ [a,b,e],ht u+1<=ht (.iff [a,b,e]):=λu hu=>by
      have:=gX hu;exact(L1 [ht u,hV [a,b,e]] (.p 1 .x) (.a (.c 1) .y) .x .y rfl this)
     have go:∀u∈ [a,b,e], ∀c',c<=c'->Tok (n+61) fs m env u c' (tv fs m n u env c'):=λu hu c' hc=>ih u env c' ns r ((all_eq_true.mp ha) u hu) hv (he.sub (hh u hu) hc)
     exact GX (n+61) fs m env c a b e _ (λc' x=>match x with|true=>tv fs m n e env c'|false=>tv fs m n b env c') (go a (by simp) c (Zi _)) (go b (by simp)) (go e (by simp))
   |doo op ps=>
    have hb:(gq op&&(bD op ps.length&&ps.all (gz ns cs r)))=true:=hb;rw[Z8,Z8]at hb;obtain⟨ho,hb⟩:=hb;have hk:=hb.1;have ha:=hb.2;have hl:=gO (n+61) fs m c env (.fz (bz (.doo op ps))) .no .no .no (λt c=>tv fs m n t env c) ps [] c .no .no (λu hu c' hc=>ih u env c' ns r ((all_eq_true.mp ha) u hu) hv (he.sub (by have:=gX hu;show ht u+1<=1+hV ps;exact(L1 [ht u,hV ps] (.p 1 .x) (.a (.c 1) .y) .x .y rfl this)) hc)) (Zi _) (by
     have:=Mf hk;exact(L1 [ps.length] (.a (.c 0) .x) (.c 1000) .x (.c 8) rfl this))
    exact KC (n+61) fs m env c op ps _ (dn op) hl λvs aa da J8=>⟨w9 (n+1) ho (da▸hk) J8,I5 ho (da▸hk) J8⟩
   |call f ps=>
    have hb:(decide (cnt cs f=some ps.length)&&ps.all (gz ns cs r))=true:=hb;rw[Z8]at hb;obtain⟨hk,ha⟩:=hb;have ha:=all_eq_true.mp ha;have fo:=pw.fn f _ (YZ hk);have hl:=gO (n+61) fs m c env (.fz (bz (.call f ps))) .no .no .no (λt c=>tv fs m n t env c) ps [] c .no .no (λu hu c' hc=>ih u env c' ns r (ha u hu) hv (he.sub (by have:=gX hu;show ht u+1<=1+hV ps;exact(L1 [ht u,hV ps] (.p 1 .x) (.a (.c 1) .y) .x .y rfl this)) hc)) (Zi _) (by
     have:=fo.k6;exact(L1 [ps.length] (.a (.c 0) .x) (.c 1000) .x (.c 6) rfl this))
    exact Dl (n+61) fs m env c f ps _ (λc vs=>tv fs m n (fnOf fs f).2.2 (kv (fnOf fs f).2.1 vs) (c+1)) (fnOf fs f) fo.find hl fo.nd (fo.len▸fo.k6) fo.len λvs c' hc hm da J8=>
     ih _ _ _ _ _ fo.ok (ja (fo.len.trans da.symm) J8) (he.call fo.ht hc hm)
   |odd b=>cases hb
noncomputable abbrev ba:Str:=⟨[108,111,111,107].toArray⟩
noncomputable abbrev mS (F:Env) (m c:Nat) (ts vs:List D):List Slot:=[.own (.dict F),.fz (.int m),.fz (.int c),.own (.list ts),.own (.list vs)]
noncomputable abbrev tk (w:Str) (e:D) (h:Env):D:=.tuple [.str w,e,.dict h]
noncomputable abbrev mR (F:Env) (m c:Nat) (ts vs:List D):Option (Except Str Rv×List Slot):=some (.ok (.fz .none),mS F m c ts vs)
noncomputable def fD (fs:List ey):Env:=fs.map λg=>(.str g.1,.tuple [d4 g.2.1,bz g.2.2])
noncomputable abbrev Ie:List St:=[.setI (.var 0) (af 7) (.tup [af 8,af 9])]
theorem Fl {acc:List ey} (h:x∉acc.map (·.1)):Mm (fD acc) x:=λp hp=>by
 obtain⟨g,hg,rfl⟩:=mem_map.mp hp;intro e;cases e;exact h (mem_map.mpr ⟨g,hg,rfl⟩)
theorem uD (N:Nat) (a5 a6:Slot):∀(fs acc:List ey) (s7 s8 s9:Slot),((acc++fs).map (·.1)).Nodup->acc.length+fs.length<=1000->
  cU ⟨P.glob,cF P N,[],false⟩ [.own (.dict (fD acc)),.no,.no,.no,.no,a5,a6,s7,s8,s9] (.tup [7,8,9]) Ie [7,8,9] (fs.map fG)=some (.ok .next,[.own (.dict (fD (acc++fs))),.no,.no,.no,.no,a5,a6,.no,.no,.no]):=by
 intro fs
 induction fs with
 |nil=>exact @λacc s7 s8 s9 aa aA=>by refine Er Zy ?_;rw[bN,ZO];rfl
 |cons g fs IH=>
  intro acc s7 s8 s9 nd hl;have e:acc++g::fs=(acc++[g])++fs:=by rw[ZP];rfl
  have hl:=hl;have ih:=IH (acc++[g]) (vK g.1) (.fz (d4 g.2.1)) (.fz (bz g.2.2)) (e▸nd) (by refine Er ZI ?_;show acc.length+1+fs.length<=1000;exact(L1 [acc.length,fs.length] (.a (.p 1 .x) .y) (.c 1000) (.a .x (.p 1 .y)) (.c 1000) rfl ‹acc.length+(g::fs).length<=(1000:Nat)›));rw[<- e]at ih;have hx:g.1∉acc.map (·.1):=λhm=>by
   rw[ZB,Zz,nodup_append]at nd;exact nd.2.2 g.1 hm g.1 Zt rfl
  have hs:zP (.dict (fD acc)) (.str g.1) (.tuple [d4 g.2.1,bz g.2.2])=some (.dict (fD (acc++[g]))):=by
   show(if (fD acc).length<Sz then some (dict (fH (fD acc) g.1 _)) else none)=_
   refine Er (Y0 (by unfold fD;rw[ZG];show acc.length<16777216;exact(L1 [acc.length,fs.length] (.p 1 .x) (.c 16777216) (.a .x (.p 1 .y)) (.c 1000) rfl ‹acc.length+(g::fs).length<=(1000:Nat)›))) ?_;unfold fH;refine Er (nK (Fl hx)) ?_;unfold fD;refine Er ZB ?_;rfl
  exact Er Zz (jW [.d 0 hs,.lp 0 ih] rfl)
theorem AQ (N:Nat) (fs:List ey) (m:Nat) (nd:(fs.map (·.1)).Nodup) (hl:fs.length<=1000):
  cF P (N+1) false 36 [.no,.no,.no,.no,.no,.fz (fF fs),.fz (.int m)]=mR (fD fs) m 0 [] []:=by
 have h:=uD N (.fz (fF fs)) (.fz (.int m)) fs [] .no .no .no nd (by rw[length_nil,Nat.zero_add];exact hl);exact aM [.lp 2 h] rfl
theorem qg (N:Nat) (F:Env) (m c:Nat) (ts us:List D) (ps:List Str) (b:D) (ws vs:D) (kvs:Env) (hz:ke .dzip [.tuple (ps.map .str),ws]=some (.own (.dict kvs))) (hl:ts.length<Sz):
  cF P (N+1) false 37 (mS F m c ts us++[.fz (d4 ps),.fz b,.fz ws])=mR F m c (ts++[tk ba b kvs]) us:=by
 exact aM [.v 0 hz,.t 0 (show decide (ts.length<Sz)=true by simp only[hl,Y2])] rfl
theorem gB (us:List D) (v:D):pc (.list (us++[v]))=some (.tuple [.list us,v]):=by
 show(match (us++[v]).getLast? with|some d=>some (tuple [.list (us++[v]).dropLast,d])|none=>none)=_
 rw[List.getLast?_append,List.dropLast_concat];rfl
noncomputable abbrev Dk:List St:=[.app (.var 6) (.pop (.var 4))]
theorem qN (N:Nat) (F:Env) (m c:Nat) (ts vs:List D) (a5:Slot):∀(rs acc:List D) (items:List D) (s7:Slot),items.length=rs.length->acc.length+rs.length<=1000->
  cU ⟨P.glob,cF P N,[0,1,2,3,4],false⟩ (mS F m c ts (vs++rs.reverse)++[a5,.own (.list acc),s7]) (.one 7) Dk [7] items=some (.ok .next,mS F m c ts vs++[a5,.own (.list (acc++rs)),.no]):=by
 intro rs
 induction rs with
 |nil=>
  intro acc items s7 hi _;refine Er (List.length_eq_zero_iff.mp hi) ?_;rw[bN,ZO,List.reverse_nil,ZO];rfl
 |cons r rs IH=>
  intro acc items s7 hi hl;cases items with
  |nil=>exact nomatch hi
  |cons i items=>
   have hl:=hl;have ih:=IH (acc++[r]) items (.fz i) (Nat.succ.inj hi) (by refine Er ZI ?_;show acc.length+1+rs.length<=1000;exact(L1 [acc.length,rs.length] (.a (.p 1 .x) .y) (.c 1000) (.a .x (.p 1 .y)) (.c 1000) rfl ‹acc.length+(r::rs).length<=(1000:Nat)›));rw[ZP]at ih;have hp:pc (.list (vs++(r::rs).reverse))=some (.tuple [.list (vs++rs.reverse),r]):=by
    refine Er reverse_cons ?_;rw[<- ZP];exact gB _ r
   have hs:acc.length<Sz:=by show acc.length<16777216;exact(L1 [acc.length,rs.length] (.p 1 .x) (.c 16777216) (.a .x (.p 1 .y)) (.c 1000) rfl ‹acc.length+(r::rs).length<=(1000:Nat)›)
   generalize vs++(r::rs).reverse=xs at hp ⊢;exact jW [.d 0 hp,.t 0 (show decide (acc.length<Sz)=true by simp only[hs,Y2]),.lp 0 ih] rfl
theorem oR (N:Nat) (F:Env) (m c:Nat) (ts vs ws:List D) (hl:ws.length<=1000):cF P (N+1) false 39 (mS F m c ts (vs++ws)++[.fz (.int ws.length)])=some (.ok (.fz (.list ws)),mS F m c ts vs):=by
 obtain⟨rs,rfl⟩:∃rs:List D,ws=rs.reverse:=⟨ws.reverse,by rw[List.reverse_reverse]⟩
 rw[ZD]at hl ⊢;have h:=qN N F m c ts vs (.fz (.int rs.length)) rs [] ((List.range rs.length).map λ(k:Nat)=>int (0+k)) .no (by rw[ZG];exact Er ZE rfl) (by refine Er length_nil ?_;rw[Nat.zero_add];exact hl);rw[Zq]at h;have hr:bG .range [.int rs.length]=some ((List.range rs.length).map λ(k:Nat)=>int (0+k)):=cH rs.length hl;generalize vs++rs.reverse=xs at h ⊢;generalize hk:(rs.length:Int)=k at h hr ⊢;exact aM [.l 0 hr,.lp 0 h] rfl
theorem refuse_eq (N:Nat) {w:Str} (h:w∈iy):cF P (N+1) false 2 [vK w]=some (.error w,[]):=by
 simp only[Zv,Zp,or_false]at h
 rcases h with rfl|rfl|rfl|rfl|rfl|rfl
 .exact aM [] rfl
 .exact aM [] rfl
 .exact aM [] rfl
 .exact aM [] rfl
 .exact aM [] rfl
 .exact aM [] rfl
noncomputable abbrev eI (x y z:D):D:=.tuple [.str gp,x,y,z]
noncomputable abbrev mE (e:Str) (F:Env) (m c:Nat) (ts vs:List D):Option (Except Str Rv×List Slot):=some (.error e,mS F m c ts vs)
section
variable (N:Nat) (F:Env) (m c:Nat) (ts us:List D) (h:Env)
theorem wZ (d:D) (hu:us.length<Sz):cF P (N+1) false 38 (mS F m c ts us++[.fz (bz (.val d)),.fz (.dict h)])=mR F m c ts (us++[d]):=by exact aM [.t 4 (show decide (us.length<Sz)=true by simp only[hu,Y2])] rfl
theorem w5 (x:Str) (v:D) (e:bS h x=some v) (hu:us.length<Sz):cF P (N+1) false 38 (mS F m c ts us++[.fz (bz (.nam x)),.fz (.dict h)])=mR F m c ts (us++[v]):=by
 have e:nX (.dict h) (.str x)=some v:=e;exact aM [.d 6 e,.t 0 (show decide (us.length<Sz)=true by simp only[hu,Y2])] rfl
theorem w2 {w:Str} (hw:w∈iy):cF P (N+2) false 38 (mS F m c ts us++[.fz (bz (.ref w)),.fz (.dict h)])=mE w F m c ts us:=by
 have e:=refuse_eq N hw;exact aM [.c 8 e] rfl
theorem w6 (x y z:D) (ht:ts.length+1<Sz):cF P (N+1) false 38 (mS F m c ts us++[.fz (eI x y z),.fz (.dict h)])=mR F m c (ts++[tk gp (eI x y z) h,tk ba x h]) us:=by
 have h2:(ts++[tk gp (eI x y z) h]).length<Sz:=by exact Er ZI ht
 have e3:ts++[tk gp (eI x y z) h,tk ba x h]=ts++[tk gp (eI x y z) h]++[tk ba x h]:=by rw[ZP];rfl
 exact Er e3 (aM [.t 9 (show decide (ts.length<Sz)=true by simp only[(Nat.lt_of_succ_lt ht),Y2]),.t 1 (show decide ((ts++[tuple [str gp,eI x y z,dict h]]).length<Sz)=true by simp only[h2,Y2])] rfl)
noncomputable abbrev HT:List St:=[.app (.var 3) (.tup [.lit (S [108,111,111,107]),af 8,af 6])]
theorem me (a5 a7:Slot):∀(ps ts:List D) (s8:Slot),ts.length+ps.length<Sz->
  cU ⟨P.glob,cF P N,[0,1,2,3,4],false⟩ (mS F m c ts us++[a5,.fz (.dict h),a7,s8]) (.one 8) HT [8] ps=some (.ok .next,mS F m c (ts++ps.map λp=>tk ba p h) us++[a5,.fz (.dict h),a7,.no]):=by
 intro ps
 induction ps with
 |nil=>exact @λts s8 aa=>by rw[bN,Zy,ZO];rfl
 |cons p ps IH=>
  intro ts s8 hl;have hl:=hl;have ih:=IH (ts++[tk ba p h]) (.fz p) (by refine Er ZI ?_;show ts.length+1+ps.length<Sz;exact(L1 [ts.length,ps.length] (.p 1 (.a (.p 1 .x) .y)) (.c 16777216) (.p 1 (.a .x (.p 1 .y))) (.c 16777216) rfl ‹ts.length+(p::ps).length<Sz›));rw[ZP]at ih;have h1:ts.length<Sz:=by exact(L1 [ts.length,ps.length] (.p 1 .x) (.c 16777216) (.p 1 (.a .x (.p 1 .y))) (.c 16777216) rfl ‹ts.length+(p::ps).length<Sz›)
  exact Er Zz (jW [.t 0 (show decide (ts.length<Sz)=true by simp only[h1,Y2]),.lp 0 ih] rfl)
theorem At (op:Str) (ps:List T) (ht:ts.length+1+ps.length<Sz):cF P (N+1) false 38 (mS F m c ts us++[.fz (bz (.doo op ps)),.fz (.dict h)])=mR F m c (ts++[tk iY (bz (.doo op ps)) h]++(bu ps).reverse.map λp=>tk ba p h) us:=by
 have h1:ts.length<Sz:=by exact(L1 [ts.length,ps.length] (.p 1 .x) (.c 16777216) (.p 1 (.a (.p 1 .x) .y)) (.c 16777216) rfl ht)
 have hl:=me N F m c us h (.fz (bz (.doo op ps))) (vK iY) (bu ps).reverse (ts++[tk iY (bz (.doo op ps)) h]) .no (by refine Er ZI ?_;refine Er ZD ?_;rw[dq];exact ht);have hi:bG .rev [.tuple (bu ps)]=some (bu ps).reverse:=rfl;generalize (bu ps).reverse=rs at hl hi ⊢;exact aM [.t 9 (show decide (ts.length<Sz)=true by simp only[h1,Y2]),.l 1 hi,.lp 0 hl] rfl
theorem uC (f:Str) (ps:List T) (ht:ts.length+1+ps.length<Sz):cF P (N+1) false 38 (mS F m c ts us++[.fz (bz (.call f ps)),.fz (.dict h)])=mR F m c (ts++[tk cv (bz (.call f ps)) h]++(bu ps).reverse.map λp=>tk ba p h) us:=by
 have h1:ts.length<Sz:=by exact(L1 [ts.length,ps.length] (.p 1 .x) (.c 16777216) (.p 1 (.a (.p 1 .x) .y)) (.c 16777216) rfl ht)
 have hl:=me N F m c us h (.fz (bz (.call f ps))) (vK cv) (bu ps).reverse (ts++[tk cv (bz (.call f ps)) h]) .no (by refine Er ZI ?_;refine Er ZD ?_;rw[dq];exact ht);have hi:bG .rev [.tuple (bu ps)]=some (bu ps).reverse:=rfl;generalize (bu ps).reverse=rs at hl hi ⊢;exact aM [.t 9 (show decide (ts.length<Sz)=true by simp only[h1,Y2]),.l 1 hi,.lp 0 hl] rfl
theorem vm (x y z:D) (s:List D):cF P (N+1) false 40 (mS F m c ts (us++[.tuple s])++[.fz (eI x y z),.fz (.dict h)])=mE ao F m c ts us:=by
 have hp:=gB us (.tuple s);generalize us++[.tuple s]=xs at hp ⊢;exact aM [.d 0 hp] rfl
theorem yD (x y z:D) (ht:ts.length<Sz):cF P (N+1) false 40 (mS F m c ts (us++[.int 0])++[.fz (eI x y z),.fz (.dict h)])=mR F m c (ts++[tk ba z h]) us:=by
 have hp:=gB us (.int 0);generalize us++[.int 0]=xs at hp ⊢;exact aM [.d 0 hp,.t 5 (show decide (ts.length<Sz)=true by simp only[ht,Y2])] rfl
theorem yC (x y z:D) (i:Int) (hi:i≠0) (ht:ts.length<Sz):cF P (N+1) false 40 (mS F m c ts (us++[.int i])++[.fz (eI x y z),.fz (.dict h)])=mR F m c (ts++[tk ba y h]) us:=by
 have hp:=gB us (.int i);have q:au .eq (.int i) (.int 0)=some false:=by rw[el,Y6 hi]
 generalize us++[.int i]=xs at hp ⊢;exact aM [.d 0 hp,.b 2 q,.t 2 (show decide (ts.length<Sz)=true by simp only[ht,Y2])] rfl
theorem BB (f:Str) (ws:List D) (hm:m<c+1):cF P (N+1) false 41 (mS F m c ts us++[vK f,.fz (.list ws)])=mE aB F m (c+1) ts us:=by
 have ea:op2 .add (.int c) (.int 1)=some (.fz (.int ((c+1:Nat):Int))):=by rw[ZV];rfl
 have qz:au .gt (.int ((c+1:Nat):Int)) (.int m)=some true:=by rw[eR,Y5 (by exact(Ln [m,c] (.i (.p 1 (.n .x)) (.n (.p 1 .y))) [Gl (.p 1 .x) (.p 1 .y)] rfl hm))]
 exact aM [.v 0 ea,.b 0 qz] rfl
theorem yF (f:Str) (ws:List D) (g:ey) (hm:¬m<c+1) (hg:bS F f=some (.tuple [d4 g.2.1,bz g.2.2])) (nd:g.2.1.Nodup) (hl:g.2.1.length=ws.length) (h6:g.2.1.length<=6) (ht:ts.length<Sz):
  cF P (N+2) false 41 (mS F m c ts us++[vK f,.fz (.list ws)])=mR F m (c+1) (ts++[tk ba (bz g.2.2) (kv g.2.1 ws)]) us:=by
 have ea:op2 .add (.int c) (.int 1)=some (.fz (.int ((c+1:Nat):Int))):=by rw[ZV];rfl
 have qz:au .gt (.int ((c+1:Nat):Int)) (.int m)=some false:=by rw[eR];exact Er (Y6 (by exact(λsV=>(Lf [c,m] [Gl (.p 1 .x) .y,Gi (.p 1 (.n .y)) (.n (.p 1 .x))] rfl (Nat.not_lt.mp hm) sV)))) rfl
 exact aM [.v 0 ea,.b 0 qz,.d 1 hg,.c 0 ((qg N F m (c+1) ts us g.2.1 (bz g.2.2) (.list ws) (.list ws) (kv g.2.1 ws) (yo nd hl h6) ht))] rfl
theorem iP (e:D) (c':Nat) (lF hY:List D) (r:Except Str Rv) (hr:r = .ok (.fz .none)\/ ∃x,r = .error x) (H:cF P N false 38 (mS F m c ts us++[.fz e,.fz (.dict h)])=some (r,mS F m c' lF hY)):cF P (N+1) false 42 (mS F m c (ts++[tk ba e h]) us)=some (r,mS F m c' lF hY):=by
 have hp:=gB ts (tk ba e h);generalize ts++[tk ba e h]=xs at hp ⊢
 rcases hr with rfl|⟨x,rfl⟩
 .exact aM [.d 0 hp,.c 2 H] rfl
 .exact aM [.d 0 hp,.c 2 H] rfl
theorem vQ (e:D) (c':Nat) (lF hY:List D) (r:Except Str Rv) (hr:r = .ok (.fz .none)\/ ∃x,r = .error x) (H:cF P N false 40 (mS F m c ts us++[.fz e,.fz (.dict h)])=some (r,mS F m c' lF hY)):cF P (N+1) false 42 (mS F m c (ts++[tk gp e h]) us)=some (r,mS F m c' lF hY):=by
 have hp:=gB ts (tk gp e h);generalize ts++[tk gp e h]=xs at hp ⊢
 rcases hr with rfl|⟨x,rfl⟩
 .exact aM [.d 0 hp,.c 4 H] rfl
 .exact aM [.d 0 hp,.c 4 H] rfl
noncomputable def NH (F:Env) (m c:Nat) (ts us:List D) (r:Except Str D):Option (Except Str Rv×List Slot):=match r with
 |.ok v=>mR F m c ts (us++[v])
 |.error x=>mE x F m c ts us
noncomputable abbrev eD (w op:Str) (ps:List D):D:=.tuple [.str w,.str op,.tuple ps]
theorem G9 (op:Str) (ps ws:List D) (r:Except Str D) (hl:ws.length=ps.length) (h8:ws.length<=8) (hu:us.length<Sz) (H:cF P (N+1) false 8 [vK op,.fz (.list ws)]=fC r):
  cF P (N+2) false 42 (mS F m c (ts++[tk iY (eD iY op ps) h]) (us++ws))=NH F m c ts us r:=by
 have hp:=gB ts (tk iY (eD iY op ps) h);have ht:=oR N F m c ts us ws (Zh h8 (by decide));have hk:ke .len [.tuple ps]=some (.fz (.int (ws.length:Int))):=by refine Er hl ?_;rfl
 generalize ts++[tk iY (eD iY op ps) h]=xs at hp ⊢;generalize us++ws=ys at ht ⊢;generalize (ws.length:Int)=k at ht hk;cases r with
 |ok v=>show _=mR F m c ts (us++[v]);exact aM [.d 0 hp,.v 8 hk,.c 0 ht,.c 0 H,.t 0 (show decide (us.length<Sz)=true by simp only[hu,Y2])] rfl
 |error x=>show _=mE x F m c ts us;exact aM [.d 0 hp,.v 8 hk,.c 0 ht,.c 0 H] rfl
theorem sJ (f:Str) (ps ws:List D) (c':Nat) (lF hY:List D) (r:Except Str Rv) (hr:r = .ok (.fz .none)\/ ∃x,r = .error x) (hl:ws.length=ps.length) (h8:ws.length<=8)
  (H:cF P (N+1) false 41 (mS F m c ts us++[vK f,.fz (.list ws)])=some (r,mS F m c' lF hY)):cF P (N+2) false 42 (mS F m c (ts++[tk cv (eD cv f ps) h]) (us++ws))=some (r,mS F m c' lF hY):=by
 have hp:=gB ts (tk cv (eD cv f ps) h);have ht:=oR N F m c ts us ws (Zh h8 (by decide));have hk:ke .len [.tuple ps]=some (.fz (.int (ws.length:Int))):=by refine Er hl ?_;rfl
 generalize ts++[tk cv (eD cv f ps) h]=xs at hp ⊢;generalize us++ws=ys at ht ⊢;generalize (ws.length:Int)=k at ht hk
 rcases hr with rfl|⟨x,rfl⟩
 .exact aM [.d 0 hp,.v 8 hk,.c 0 ht,.c 0 H] rfl
 .exact aM [.d 0 hp,.v 8 hk,.c 0 ht,.c 0 H] rfl
end
noncomputable abbrev GO:Ex:=.cmp .nel (.pl (.var 6)) (.list [])
noncomputable abbrev vM:List St:=[.mst 42 [3,4,5,6,7] [5] []]
noncomputable abbrev rF (a0 a1 a2:Slot) (F:Env) (m c:Nat) (ts vs:List D):Mv.Fm:=[a0,a1,a2,.own (.dict F),.fz (.int m),.fz (.int c),.own (.list ts),.own (.list vs)]
noncomputable abbrev Jd (N:Nat):cR:=⟨P.glob,cF P N,[],false⟩
section
variable (N:Nat) (a0 a1 a2:Slot) (F:Env) (m c:Nat) (ts us:List D)
theorem zg (k:Nat):vE (Jd N) (rF a0 a1 a2 F m c [] us) GO vM [] (k+1)=some (.ok .next,rF a0 a1 a2 F m c [] us):=by exact Kw [] rfl
theorem wE (t:D):au .nel (.list (ts++[t])) (.list [])=some true:=by
 show some (!(ts++[t]).isEmpty)=_
 cases ts<;>rfl
theorem zf (t:D) (k c':Nat) (lF hY:List D) (R:cA dH) (H:cF P N false 42 (mS F m c (ts++[t]) us)=mR F m c' lF hY) (h:vE (Jd N) (rF a0 a1 a2 F m c' lF hY) GO vM [] k=R) (hR:∃x,R=some x):
  vE (Jd N) (rF a0 a1 a2 F m c (ts++[t]) us) GO vM [] (k+1)=R:=by
 have hn:=wE ts t;obtain⟨x,rfl⟩:=hR;generalize ts++[t]=xs at H hn ⊢;exact Kw [.b 0 hn,.c 1 H,.lp 0 h] rfl
theorem Db (t:D) (k c':Nat) (lF hY:List D) (e:Str) (H:cF P N false 42 (mS F m c (ts++[t]) us)=mE e F m c' lF hY):
  vE (Jd N) (rF a0 a1 a2 F m c (ts++[t]) us) GO vM [] (k+1)=some (.error e,rF a0 a1 a2 F m c' lF hY):=by
 have hn:=wE ts t;generalize ts++[t]=xs at H hn ⊢;exact Kw [.b 0 hn,.c 1 H] rfl
end
structure Mc where
 K:Nat
 a0:Slot
 a1:Slot
 a2:Slot
 F:Env
 m:Nat
noncomputable abbrev Mc.wh (M:Mc) (c:Nat) (ts us:List D) (k:Nat):cA dH:=vE (Jd (M.K+62)) (rF M.a0 M.a1 M.a2 M.F M.m c ts us) GO vM [] k
def Runs (M:Mc) (c:Nat) (ts us:List D) (c':Nat) (lF hY:List D) (j:Nat):Prop:= ∀k x,M.wh c' lF hY k=some x->M.wh c ts us (k+j)=some x
def iu (M:Mc) (c:Nat) (ts us:List D) (e:Str) (j:Nat):Prop:= ∃c' lF hY, ∀k,M.wh c ts us (k+j)=some (.error e,rF M.a0 M.a1 M.a2 M.F M.m c' lF hY)
section
variable {M:Mc} {c c1 c2:Nat} {ts zp Mx us zj Mw:List D} {i j:Nat} {e:Str}
theorem Runs.trans (h:Runs M c ts us c1 zp zj i) (g:Runs M c1 zp zj c2 Mx Mw j):Runs M c ts us c2 Mx Mw (j+i):=λk x hx=>by
 rw[<- Nat.add_assoc];exact h _ x (g k x hx)
theorem Runs.fails (h:Runs M c ts us c1 zp zj i) (g:iu M c1 zp zj e j):iu M c ts us e (j+i):=by
 obtain⟨c',lF,hY,g⟩:=g;exact⟨c',lF,hY,λk=>by rw[<- Nat.add_assoc];exact h _ _ (g k)⟩
theorem Runs.one {t:D} (H:cF P (M.K+62) false 42 (mS M.F M.m c (ts++[t]) us)=mR M.F M.m c1 zp zj):Runs M c (ts++[t]) us c1 zp zj 1:=λk x hx=>zf _ _ _ _ _ _ _ _ _ t k c1 zp zj _ H hx ⟨x,rfl⟩
theorem iu.one {t:D} (H:cF P (M.K+62) false 42 (mS M.F M.m c (ts++[t]) us)=mE e M.F M.m c1 zp zj):iu M c (ts++[t]) us e 1:=⟨_,_,_,λk=>Db _ _ _ _ _ _ _ _ _ t k c1 zp zj e H⟩
end
inductive fJ (M:Mc) (c:Nat) (ts us tt:List D) (B:Nat) (R:Except Str (List D)×Nat):Prop
 |ok (vs:List D) (j:Nat):R.1 = .ok vs->j<=B->Runs M c (ts++tt) us R.2 ts (us++vs) j->fJ M c ts us tt B R
 |err (e:Str) (j:Nat):R.1 = .error e->j<=B->iu M c (ts++tt) us e j->fJ M c ts us tt B R
noncomputable def jz (R:Except Str D×Nat):Except Str (List D)×Nat:=match R with
 |(.ok v,c)=>(.ok [v],c)
 |(.error e,c)=>(.error e,c)
noncomputable abbrev Av (ps:List T) (env:Env):List D:=(bu ps).reverse.map λp=>tk ba p env
theorem w8 (p:T) (ps:List T) (env:Env):Av (p::ps) env=Av ps env++[tk ba (bz p) env]:=by
 show((bz p::bu ps).reverse.map λp=>tk ba p env)=_
 rw[reverse_cons,ZB];rfl
theorem Au (ps:List T) (env:Env):(Av ps env).length=ps.length:=by rw[ZG,ZD,dq]
theorem o6 {M:Mc} {Z A:Nat} {env:Env} (f:T->Nat->Except Str D×Nat):∀(ps:List T) (c:Nat) (ts us:List D),
  (∀p∈ps, ∀c',c<=c'->c'<=(f p c').2/\ ∀ts us:List D,ts.length+A<=1000000->us.length+A<=1000000->fJ M c' ts us [tk ba (bz p) env] (2*sz p+2*Z*((f p c').2-c')) (jz (f p c')))->
  ts.length+ps.length+A<=1000000->us.length+ps.length+A<=1000000->c<=(oI f ps c).2/\fJ M c ts us (Av ps env) (2*gx ps+2*Z*((oI f ps c).2-c)) (oI f ps c):=by
 intro ps
 induction ps with
 |nil=>exact @λc ts us aa aA bF=>⟨Zi _,.ok [] 0 rfl (Zc _) (λk x hx=>by
   rw[ZO]at hx;show M.wh c (ts++[]) us k=_;rw[ZO];exact hx)⟩
 |cons p ps ih=>
  intro c ts us H hV AW;have hV:=hV;have AW:=AW;obtain⟨up,S⟩:=H p Zt c (Zi _);have S:=S (ts++Av ps env) us (by refine Er ZI ?_;rw[Au];exact(L1 [ts.length,ps.length,A] (.a (.a .x .y) .z) (.c 1000000) (.a (.a .x (.p 1 .y)) .z) (.c 1000000) rfl ‹ts.length+(p::ps).length+A<=(1000000:Nat)›)) (L1 [us.length,A,ps.length] (.a .x .y) (.c 1000000) (.a (.a .x (.p 1 .z)) .y) (.c 1000000) rfl ‹us.length+(p::ps).length+A<=(1000000:Nat)›);rw[kj,w8]
  rcases hf:f p c with⟨r,c1⟩
  rw[hf]at up S;have up:c<=c1:=up;have es:gx (p::ps)=sz p+gx ps:=rfl;cases r with
  |error e=>
   cases S with
   |ok vs j e1=>cases e1
   |err e' j e1 hj h=>
    cases e1;refine⟨up,.err e j rfl ?_ (by rw[<- ZP];exact h)⟩;refine Er es ?_;rw[Nat.mul_add];exact Zh hj (Nat.add_le_add_right (Zl _ _) _)
  |ok v=>
   cases S with
   |err e' j e1=>exact CF e1
   |ok vs j e1 hj h=>
    obtain rfl:=iE e1;have hj:=hj;obtain⟨lU,S2⟩:=ih c1 ts (us++[v]) (λq hq c' hc=>H q (Zu _ hq) c' (Zh up hc)) (L1 [ts.length,ps.length,A] (.a (.a .x .y) .z) (.c 1000000) (.a (.a .x (.p 1 .y)) .z) (.c 1000000) rfl ‹ts.length+(p::ps).length+A<=(1000000:Nat)›) (by refine Er ZI ?_;show us.length+1+ps.length+A<=1000000;exact(L1 [us.length,ps.length,A] (.a (.a (.p 1 .x) .y) .z) (.c 1000000) (.a (.a .x (.p 1 .y)) .z) (.c 1000000) rfl ‹us.length+(p::ps).length+A<=(1000000:Nat)›));dsimp only
    rcases hg:oI f ps c1 with⟨r2,c2⟩
    rw[hg]at lU S2;have ez:2*Z*(c2-c)=2*Z*(c2-c1)+2*Z*(c1-c):=by rw[<- Nat.mul_add];congr 1;exact(Zk (Ln [c2-c,c2-c1,c1-c,c,c2,c1] (.w .x (.a .y .z)) [Ge (.a .x .u) (.v 4),Gf (.a .y (.v 5)) (.v 4),Gf (.a .z .u) (.v 5)] rfl (Zd (n:=c2) (m:=c) (Ln [c,c2,c1] (.w .x .y) [Gl .x .z,Gl .z .y] rfl ‹c<=c1› ‹c1<=(r2,c2).snd›)) (Zd (n:=c2) (m:=c1) ‹c1<=(r2,c2).snd›) (Zd (n:=c1) (m:=c) ‹c<=c1›)) (Ln [c2-c1,c1-c,c2-c,c1,c2,c] (.w (.a .x .y) .z) [Ge (.a .x .u) (.v 4),Ge (.a .y (.v 5)) .u,Gf (.a .z (.v 5)) (.v 4)] rfl (Zd (n:=c2) (m:=c1) ‹c1<=(r2,c2).snd›) (Zd (n:=c1) (m:=c) ‹c<=c1›) (Zd (n:=c2) (m:=c) (Ln [c,c2,c1] (.w .x .y) [Gl .x .z,Gl .z .y] rfl ‹c<=c1› ‹c1<=(r2,c2).snd›))))
    cases S2 with
    |ok ws j2 e2 pP h2=>
     cases e2;have pP:j2<=2*gx ps+2*Z*(c2-c1):=pP;refine⟨Zh up lU,.ok (v::ws) (j2+j) rfl ?_ ?_⟩
     .refine Er es ?_;rw[Nat.mul_add];exact Er ez (Ln [j2,j,sz p,gx ps,2*Z*(c2-c1),2*Z*(c1-c)] (.w (.a .x .y) (.a (.a (.m 2 .z) (.m 2 .u)) (.a (.v 4) (.v 5)))) [Gl .y (.a (.m 2 .z) (.v 5)),Gl .x (.a (.m 2 .u) (.v 4))] rfl ‹j<=(2:Nat)*sz p+(2:Nat)*Z*((Except.ok v,c1).snd-c)› ‹j2<=(2:Nat)*gx ps+(2:Nat)*Z*((Except.ok ws,c2).snd-c1)›)
     .have:=h.trans h2
      rw[ZP us,ZP ts]at this;exact this
    |err e j2 e2 pP h2=>
     cases e2;have pP:=pP;refine⟨Zh up lU,.err e (j2+j) rfl ?_ (by have:=h.fails h2;rw[ZP ts]at this;exact this)⟩;refine Er es ?_;rw[Nat.mul_add];refine Er ez ?_;exact(Ln [j2,j,sz p,gx ps,2*Z*(c2-c1),2*Z*(c1-c)] (.w (.a .x .y) (.a (.a (.m 2 .z) (.m 2 .u)) (.a (.v 4) (.v 5)))) [Gl .y (.a (.m 2 .z) (.v 5)),Gl .x (.a (.m 2 .u) (.v 4))] rfl ‹j<=(2:Nat)*sz p+(2:Nat)*Z*((Except.ok v,c1).snd-c)› ‹j2<=(2:Nat)*gx ps+(2:Nat)*Z*((Except.error e,c2).snd-c1)›)
theorem Fo {fs:List ey} {g:ey} (h:(fs.find? λg=>decide (g.1=f))=some g):bS (fD fs) f=some (.tuple [d4 g.2.1,bz g.2.2]):=by
 induction fs with
 |nil=>cases h
 |cons a fs ih=>
  show(if a.1=f then some (tuple [d4 a.2.1,bz a.2.2]) else bS (fD fs) f)=_
  rw[find?_cons]at h
  by_cases q:a.1=f
  .rw[Y5 q]at h;cases h;rw[Y0 q]
  .rw[Y6 q]at h;rw[Y1 q];exact ih h
theorem kL {a:Nat} (h:a+9*(n+1)<=1000000):a+9<Sz:=by show a+9<16777216;exact(L1 [a,n] (.p 1 (.p 9 .x)) (.c 16777216) (.a .x (.m 9 (.p 1 .y))) (.c 1000000) rfl h)
noncomputable def pk (b e:T):Bool->T
 |true=>e
 |false=>b
noncomputable abbrev Ej:Except Str Rv:=.ok (.fz .none)
section
variable {M:Mc} {c:Nat} {env:Env} {Z:Nat}
theorem o7 {t:T} {v:D} (H:cF P (M.K+61) false 38 (mS M.F M.m c ts us++[.fz (bz t),.fz (.dict env)])=mR M.F M.m c ts (us++[v])) (hs:1<=sz t):fJ M c ts us [tk ba (bz t) env] (2*sz t+2*Z*(c-c)) (.ok [v],c):=
 .ok [v] 1 rfl (by have:=Zl (2*sz t) (2*Z*(c-c));exact(Ln [sz t,2*Z*(c-c)] (.w (.c 1) (.a (.m 2 .x) .y)) [(2,.w (.c 1) .x),Gl (.m 2 .x) (.a (.m 2 .x) .y)] rfl hs this)) (Runs.one (iP (M.K+61) _ _ _ _ _ env _ c ts (us++[v]) Ej (.inl rfl) H))
theorem zJ {a b e:T} {F:Nat->Bool->Except Str D×Nat} (hV:ts.length+9*(n+1)<=1000000) (AW:us.length+9*(n+1)<=1000000)
  (vg:vG R.1) (up:c<=R.2) (ha:∀ts us:List D,ts.length+9*n<=1000000->us.length+9*n<=1000000->fJ M c ts us [tk ba (bz a) env] (2*sz a+2*Z*(R.2-c)) (jz R))
  (hb:∀x c',c<=c'->c'<=(F c' x).2/\ ∀ts us:List D,ts.length+9*n<=1000000->us.length+9*n<=1000000->fJ M c' ts us [tk ba (bz (pk b e x)) env] (2*sz (pk b e x)+2*Z*((F c' x).2-c')) (jz (F c' x))):
  fJ M c ts us [tk ba (bz (.iff [a,b,e])) env] (2*sz (.iff [a,b,e])+2*Z*((Ij R F).2-c)) (jz (Ij R F)):=by
 have l1:=Zf (by exact(L0 [ts.length] (.p 1 .x) (.p 9 .x) rfl)) (kL hV);have s1:Runs M c (ts++[tk ba (bz (.iff [a,b,e])) env]) us c (ts++[tk gp (bz (.iff [a,b,e])) env]++[tk ba (bz a) env]) us 1:=by
  have e0:ts++[tk gp (bz (.iff [a,b,e])) env,tk ba (bz a) env]=ts++[tk gp (bz (.iff [a,b,e])) env]++[tk ba (bz a) env]:=by rw[ZP];rfl
  have:=w6 (M.K+60) M.F M.m c ts us env (bz a) (bz b) (bz e) l1;exact Runs.one (iP (M.K+61) _ _ _ _ _ env _ c _ us Ej (.inl rfl) (e0▸this))
 have S:=ha (ts++[tk gp (bz (.iff [a,b,e])) env]) us (by refine Er ZI ?_;show ts.length+1+9*n<=1000000;exact(L1 [ts.length,n] (.a (.p 1 .x) (.m 9 .y)) (.c 1000000) (.a .x (.m 9 (.p 1 .y))) (.c 1000000) rfl hV)) (L1 [us.length,n] (.a .x (.m 9 .y)) (.c 1000000) (.a .x (.m 9 (.p 1 .y))) (.c 1000000) rfl AW);have hsz:sz (.iff [a,b,e])=1+(sz a+(sz b+(sz e+0))):=rfl;obtain⟨r,c1⟩:=R;have up:c<=c1:=up;cases r with
 |error x=>
  cases S with
  |ok vs j e1=>cases e1
  |err x' j e1 hj h=>
   cases e1;have hj:j<=2*sz a+2*Z*(c1-c):=hj;exact .err x (j+1) rfl (by show j+1<=2*sz (.iff [a,b,e])+2*Z*(c1-c);refine Er hsz ?_;exact(L1 [j,sz a,sz b,sz e,2*Z*(c1-c)] (.p 1 .x) (.a (.m 2 (.a (.c 1) (.a .y (.a .z (.p 0 .u))))) (.v 4)) .x (.a (.m 2 .y) (.v 4)) rfl ‹j<=(2:Nat)*sz a+(2:Nat)*Z*((Except.error x,c1).snd-c)›)) (s1.fails h)
 |ok v=>
  cases S with
  |err x' j e1=>cases e1
  |ok vs j e1 hj h=>
   cases e1;have hj:j<=2*sz a+2*Z*(c1-c):=hj
   rcases Vg.k vg with⟨i,rfl,_⟩|⟨s,rfl,_⟩
   .have go:∀x:Bool,Runs M c1 (ts++[tk gp (bz (.iff [a,b,e])) env]) (us++[.int i]) c1 (ts++[tk ba (bz (pk b e x)) env]) us 1->fJ M c ts us [tk ba (bz (.iff [a,b,e])) env] (2*sz (.iff [a,b,e])+2*Z*((F c1 x).2-c)) (jz (F c1 x)):=λx s3=>by
     obtain⟨lU,S2⟩:=hb x c1 up;have S2:=S2 ts us (L1 [ts.length,n] (.a .x (.m 9 .y)) (.c 1000000) (.a .x (.m 9 (.p 1 .y))) (.c 1000000) rfl hV) (by exact(L1 [us.length,n] (.a .x (.m 9 .y)) (.c 1000000) (.a .x (.m 9 (.p 1 .y))) (.c 1000000) rfl AW));have hx:sz (pk b e x)<=sz b+sz e:=by cases x<;>dsimp only[pk]<;>(first|exact(L0 [sz b,sz e] .x (.a .x .y) rfl)|exact(L0 [sz e,sz b] .x (.a .y .x) rfl))
     rcases hF:F c1 x with⟨r2,c2⟩
     rw[hF]at lU S2;have lU:c1<=c2:=lU;have ez:2*Z*(c2-c)=2*Z*(c2-c1)+2*Z*(c1-c):=by rw[<- Nat.mul_add];congr 1;exact(Zk (Ln [c2-c,c2-c1,c1-c,c,c2,c1] (.w .x (.a .y .z)) [Ge (.a .x .u) (.v 4),Gf (.a .y (.v 5)) (.v 4),Gf (.a .z .u) (.v 5)] rfl (Zd (n:=c2) (m:=c) (Ln [c,c2,c1] (.w .x .y) [Gl .x .z,Gl .z .y] rfl ‹c<=c1› ‹c1<=(r2,c2).snd›)) (Zd (n:=c2) (m:=c1) ‹c1<=(r2,c2).snd›) (Zd (n:=c1) (m:=c) ‹c<=c1›)) (Ln [c2-c1,c1-c,c2-c,c1,c2,c] (.w (.a .x .y) .z) [Ge (.a .x .u) (.v 4),Ge (.a .y (.v 5)) .u,Gf (.a .z (.v 5)) (.v 4)] rfl (Zd (n:=c2) (m:=c1) ‹c1<=(r2,c2).snd›) (Zd (n:=c1) (m:=c) ‹c<=c1›) (Zd (n:=c2) (m:=c) (Ln [c,c2,c1] (.w .x .y) [Gl .x .z,Gl .z .y] rfl ‹c<=c1› ‹c1<=(r2,c2).snd›))))
     refine ag λG g=>?_
     cases r2 with
     |ok w=>
      refine g ?_;cases S2 with
      |err x' j2 e2=>cases e2
      |ok ws j2 e2 pP h2=>
       cases e2;have pP:=pP;exact .ok [w] (j2+(1+(j+1))) rfl (by show _<=2*sz (.iff [a,b,e])+2*Z*(c2-c);rw[hsz,ez];exact(Ln [j2,j,sz a,sz b,sz e,2*Z*(c2-c1),2*Z*(c1-c),sz (pk b e x)] (.w (.a .x (.a (.c 1) (.p 1 .y))) (.a (.m 2 (.a (.c 1) (.a .z (.a .u (.p 0 (.v 4)))))) (.a (.v 5) (.v 6)))) [Gl .y (.a (.m 2 .z) (.v 6)),(2,.w (.v 7) (.a .u (.v 4))),Gl .x (.a (.m 2 (.v 7)) (.v 5))] rfl ‹j<=(2:Nat)*sz a+(2:Nat)*Z*(c1-c)› hx ‹j2<=(2:Nat)*sz (pk b e x)+(2:Nat)*Z*((Except.ok w,c2).snd-c1)›)) (((s1.trans h).trans s3).trans h2)
     |error w=>
      refine g ?_;cases S2 with
      |ok ws j2 e2=>cases e2
      |err x' j2 e2 pP h2=>
       cases e2;have pP:j2<=2*sz (pk b e x)+2*Z*(c2-c1):=pP;exact .err w (j2+(1+(j+1))) rfl (by show _<=2*sz (.iff [a,b,e])+2*Z*(c2-c);rw[hsz,ez];exact(Ln [j2,j,sz a,sz b,sz e,2*Z*(c2-c1),2*Z*(c1-c),sz (pk b e x)] (.w (.a .x (.a (.c 1) (.p 1 .y))) (.a (.m 2 (.a (.c 1) (.a .z (.a .u (.p 0 (.v 4)))))) (.a (.v 5) (.v 6)))) [Gl .y (.a (.m 2 .z) (.v 6)),(2,.w (.v 7) (.a .u (.v 4))),Gl .x (.a (.m 2 (.v 7)) (.v 5))] rfl ‹j<=(2:Nat)*sz a+(2:Nat)*Z*(c1-c)› hx ‹j2<=(2:Nat)*sz (pk b e x)+(2:Nat)*Z*((Except.error w,c2).snd-c1)›)) (((s1.trans h).trans s3).fails h2)
    show fJ M c ts us _ (2*sz (.iff [a,b,e])+2*Z*((if i=0 then F c1 true else F c1 false).2-c)) (jz (if i=0 then F c1 true else F c1 false))
    by_cases q:i=0
    .subst q
     exact Er (Y0 rfl) (go true (Runs.one (vQ (M.K+61) _ _ _ _ _ env _ c1 _ us Ej (.inl rfl) (yD (M.K+60) M.F M.m c1 ts us env (bz a) (bz b) (bz e) (Nat.lt_of_succ_lt l1)))))
    .exact Er (Y1 q) (go false (Runs.one (vQ (M.K+61) _ _ _ _ _ env _ c1 _ us Ej (.inl rfl) (yC (M.K+60) M.F M.m c1 ts us env (bz a) (bz b) (bz e) i q (Nat.lt_of_succ_lt l1)))))
   .have f3:iu M c1 (ts++[tk gp (bz (.iff [a,b,e])) env]) (us++[.tuple s]) ao 1:=iu.one (vQ (M.K+61) _ _ _ _ _ env _ c1 ts us (.error ao) (.inr ⟨_,rfl⟩) (vm (M.K+60) M.F M.m c1 ts us env (bz a) (bz b) (bz e) s))
    exact .err ao (1+(j+1)) rfl (by show _<=2*sz (.iff [a,b,e])+2*Z*(c1-c);refine Er hsz ?_;exact(L1 [j,sz a,sz b,sz e,2*Z*(c1-c)] (.a (.c 1) (.p 1 .x)) (.a (.m 2 (.a (.c 1) (.a .y (.a .z (.p 0 .u))))) (.v 4)) .x (.a (.m 2 .y) (.v 4)) rfl ‹j<=(2:Nat)*sz a+(2:Nat)*Z*(c1-c)›)) ((s1.trans h).fails f3)
theorem DH {op:Str} {ps:List T} {R:Except Str (List D)×Nat} {r:List D->Except Str D} (hV:ts.length+9*(n+1)<=1000000) (AW:us.length+9*(n+1)<=1000000) (h8:ps.length<=8)
  (S:fJ M c (ts++[tk iY (bz (.doo op ps)) env]) us (Av ps env) (2*gx ps+2*Z*(R.2-c)) R)
  (hd:∀vs,R.1 = .ok vs->vs.length=ps.length/\cF P (M.K+61) false 8 [vK op,.fz (.list vs)]=fC (r vs)):
  fJ M c ts us [tk ba (bz (.doo op ps)) env] (2*sz (.doo op ps)+2*Z*((IZ R r).2-c)) (jz (IZ R r)):=by
 have s1:Runs M c (ts++[tk ba (bz (.doo op ps)) env]) us c (ts++[tk iY (bz (.doo op ps)) env]++Av ps env) us 1:=
  Runs.one (iP (M.K+61) _ _ _ _ _ env _ c _ us Ej (.inl rfl) (At (M.K+60) M.F M.m c ts us env op ps (Zf (by exact(L1 [ts.length,ps.length] (.a (.p 1 .x) .y) (.p 9 .x) .y (.c 8) rfl h8)) (kL hV))))
 obtain⟨q,c1⟩:=R;cases S with
 |err x j e1 hj h=>
  cases e1;have hj:=hj;exact .err x (j+1) rfl (by show j+1<=2*sz (.doo op ps)+2*Z*(c1-c);refine Er (rfl:sz (.doo op ps)=1+gx ps) ?_;exact(L1 [j,gx ps,2*Z*(c1-c)] (.p 1 .x) (.a (.m 2 (.a (.c 1) .y)) .z) .x (.a (.m 2 .y) .z) rfl ‹j<=(2:Nat)*gx ps+(2:Nat)*Z*((Except.error x,c1).snd-c)›)) (s1.fails h)
 |ok vs j e1 hj h=>
  cases e1;have hj:j<=2*gx ps+2*Z*(c1-c):=hj;have key:=G9 (M.K+60) M.F M.m c1 ts us env op (bu ps) vs (r vs) (by rw[dq];exact(hd vs rfl).1) (by rw[(hd vs rfl).1];exact h8) (Zf (by exact(L0 [us.length] .x (.p 9 .x) rfl)) (kL AW)) (hd vs rfl).2;show fJ M c ts us _ _ (jz (r vs,c1))
  cases hr:r vs with
  |ok v=>
   rw[hr]at key;exact .ok [v] (1+(j+1)) rfl (by show _<=2*sz (.doo op ps)+2*Z*(c1-c);rw[(rfl:sz (.doo op ps)=1+gx ps)];exact(L1 [j,gx ps,2*Z*(c1-c)] (.a (.c 1) (.p 1 .x)) (.a (.m 2 (.a (.c 1) .y)) .z) .x (.a (.m 2 .y) .z) rfl ‹j<=(2:Nat)*gx ps+(2:Nat)*Z*((Except.ok vs,c1).snd-c)›)) ((s1.trans h).trans (Runs.one key))
  |error x=>
   rw[hr]at key;exact .err x (1+(j+1)) rfl (by show _<=2*sz (.doo op ps)+2*Z*(c1-c);rw[(rfl:sz (.doo op ps)=1+gx ps)];exact(L1 [j,gx ps,2*Z*(c1-c)] (.a (.c 1) (.p 1 .x)) (.a (.m 2 (.a (.c 1) .y)) .z) .x (.a (.m 2 .y) .z) rfl ‹j<=(2:Nat)*gx ps+(2:Nat)*Z*((Except.ok vs,c1).snd-c)›)) ((s1.trans h).fails (iu.one key))
theorem vV {ps:List T} {R:Except Str (List D)×Nat} {F:Nat->List D->Except Str D×Nat} {g:ey} (hV:ts.length+9*(n+1)<=1000000) (AW:us.length+9*(n+1)<=1000000) (h6:g.2.1.length<=6) (hn:g.2.1.length=ps.length) (nd:g.2.1.Nodup)
  (hg:bS M.F f=some (.tuple [d4 g.2.1,bz g.2.2])) (hz:sz g.2.2<=Z) (up:c<=R.2)
  (S:fJ M c (ts++[tk cv (bz (.call f ps)) env]) us (Av ps env) (2*gx ps+2*Z*(R.2-c)) R)
  (hd:∀vs,R.1 = .ok vs->vs.length=ps.length/\(¬M.m<R.2+1->R.2+1<=(F R.2 vs).2/\fJ M (R.2+1) ts us [tk ba (bz g.2.2) (kv g.2.1 vs)] (2*sz g.2.2+2*Z*((F R.2 vs).2-(R.2+1))) (jz (F R.2 vs)))):
  fJ M c ts us [tk ba (bz (.call f ps)) env] (2*sz (.call f ps)+2*Z*((Jf M.m R F).2-c)) (jz (Jf M.m R F)):=by
 have l9:=kL hV;have u9:=kL AW;have s1:Runs M c (ts++[tk ba (bz (.call f ps)) env]) us c (ts++[tk cv (bz (.call f ps)) env]++Av ps env) us 1:=
  Runs.one (iP (M.K+61) _ _ _ _ _ env _ c _ us Ej (.inl rfl) (uC (M.K+60) M.F M.m c ts us env f ps (Zf (Ln [ts.length,ps.length,g.snd.fst.length] (.w (.a (.p 1 .x) .y) (.p 9 .x)) [Gl .z (.c 6),Gf .z .y] rfl h6 hn) l9)))
 have hsz:sz (.call f ps)=1+gx ps:=rfl;obtain⟨q,c1⟩:=R;have up:c<=c1:=up;cases S with
 |err x j e1 hj h=>
  cases e1;have hj:=hj;exact .err x (j+1) rfl (by show j+1<=2*sz (.call f ps)+2*Z*(c1-c);refine Er hsz ?_;exact(L1 [j,gx ps,2*Z*(c1-c)] (.p 1 .x) (.a (.m 2 (.a (.c 1) .y)) .z) .x (.a (.m 2 .y) .z) rfl ‹j<=(2:Nat)*gx ps+(2:Nat)*Z*((Except.error x,c1).snd-c)›)) (s1.fails h)
 |ok vs j e1 hj h=>
  cases e1;have hj:j<=2*gx ps+2*Z*(c1-c):=hj;obtain⟨hl,hd⟩:=hd vs rfl;have l8:vs.length<=8:=by exact Er hl (Er hn.symm (L1 [g.snd.fst.length] .x (.c 8) .x (.c 6) rfl h6))
  show fJ M c ts us _ (2*sz (.call f ps)+2*Z*((if M.m<c1+1 then(.error aB,c1+1) else F c1 vs:Except Str D×Nat).2-c)) (jz (if M.m<c1+1 then(.error aB,c1+1) else F c1 vs))
  by_cases z:M.m<c1+1
  .refine Er (Y0 z) ?_
   have key:=sJ (M.K+60) M.F M.m c1 ts us env f (bu ps) vs (c1+1) ts us (.error aB) (.inr ⟨_,rfl⟩) (by rw[dq];exact hl) l8 (BB (M.K+60) M.F M.m c1 ts us f vs z);refine .err aB (1+(j+1)) rfl ?_ ((s1.trans h).fails (iu.one key));show _<=2*sz (.call f ps)+2*Z*(c1+1-c)
   have:2*Z*(c1-c)<=2*Z*(c1+1-c):=mul_le_mul_left _ (Ln [c1-c,c1+1-c,c,c1] (.w .x .y) [Ge (.a .x .z) .u,Gf (.a .y .z) (.p 1 .u)] rfl (Zd (n:=c1) (m:=c) ‹c<=c1›) (Zd (n:=c1+(1:Nat)) (m:=c) (L1 [c,c1] .x (.p 1 .y) .x .y rfl ‹c<=c1›)));refine Er hsz ?_;omega
  .refine Er (Y1 z) ?_
   obtain⟨lU,S2⟩:=hd z;have key:=sJ (M.K+60) M.F M.m c1 ts us env f (bu ps) vs (c1+1) (ts++[tk ba (bz g.2.2) (kv g.2.1 vs)]) us Ej (.inl rfl) (by rw[dq];exact hl) l8 (yF (M.K+59) M.F M.m c1 ts us f vs g z hg nd (hn.trans hl.symm) h6 (Zf (L0 [ts.length] .x (.p 9 .x) rfl) l9));have lU:c1+1<=(F c1 vs).2:=lU
   rcases hF:F c1 vs with⟨r2,c2⟩
   have lU:=hF▸lU;rw[hF]at S2;have lU:c1+1<=c2:=lU;have ez:2*Z*(c2-c)=2*Z*(c2-(c1+1))+2*Z*(c1-c)+2*Z:=by
    have:c2-c=(c2-(c1+1))+(c1-c)+1:=by exact(Zk (Ln [c2-c,c2-(c1+1),c1-c,c,c2,c1] (.w .x (.p 1 (.a .y .z))) [Ge (.a .x .u) (.v 4),Gf (.a .y (.p 1 (.v 5))) (.v 4),Gf (.a .z .u) (.v 5)] rfl (Zd (n:=c2) (m:=c) (Ln [c,c2,c1] (.w .x .y) [Gl .x .z,Gl (.p 1 .z) .y] rfl ‹c<=c1› ‹c1+(1:Nat)<=(r2,c2).snd›)) (Zd (n:=c2) (m:=c1+(1:Nat)) ‹c1+(1:Nat)<=(r2,c2).snd›) (Zd (n:=c1) (m:=c) ‹c<=c1›)) (Ln [c2-(c1+1),c1-c,c2-c,c1,c2,c] (.w (.p 1 (.a .x .y)) .z) [Ge (.a .x (.p 1 .u)) (.v 4),Ge (.a .y (.v 5)) .u,Gf (.a .z (.v 5)) (.v 4)] rfl (Zd (n:=c2) (m:=c1+(1:Nat)) ‹c1+(1:Nat)<=(r2,c2).snd›) (Zd (n:=c1) (m:=c) ‹c<=c1›) (Zd (n:=c2) (m:=c) (Ln [c,c2,c1] (.w .x .y) [Gl .x .z,Gl (.p 1 .z) .y] rfl ‹c<=c1› ‹c1+(1:Nat)<=(r2,c2).snd›))))
    refine Er this ?_;rw[Nat.mul_add,Nat.mul_add,Nat.mul_one]
   cases r2 with
   |ok w=>
    cases S2 with
    |err x' j2 e2=>exact CF e2
    |ok ws j2 e2 pP h2=>
     cases e2;have pP:=pP;exact .ok [w] (j2+(1+(j+1))) rfl (by show _<=2*sz (.call f ps)+2*Z*(c2-c);rw[hsz,ez];exact(Ln [j2,j,gx ps,2*Z*(c2-(c1+1)),2*Z*(c1-c),Z,sz g.snd.snd] (.w (.a .x (.a (.c 1) (.p 1 .y))) (.a (.m 2 (.a (.c 1) .z)) (.a (.a .u (.v 4)) (.m 2 (.v 5))))) [(2,.w (.v 6) (.v 5)),Gl .y (.a (.m 2 .z) (.v 4)),Gl .x (.a (.m 2 (.v 6)) .u)] rfl hz ‹j<=(2:Nat)*gx ps+(2:Nat)*Z*((Except.ok vs,c1).snd-c)› ‹j2<=(2:Nat)*sz g.snd.snd+(2:Nat)*Z*((Except.ok w,c2).snd-(c1+(1:Nat)))›)) (((s1.trans h).trans (Runs.one key)).trans h2)
   |error w=>
    cases S2 with
    |ok ws j2 e2=>exact iX e2
    |err x' j2 e2 pP h2=>
     cases e2;have pP:=pP;exact .err w (j2+(1+(j+1))) rfl (by show _<=2*sz (.call f ps)+2*Z*(c2-c);rw[hsz,ez];exact(Ln [j2,j,gx ps,2*Z*(c2-(c1+1)),2*Z*(c1-c),Z,sz g.snd.snd] (.w (.a .x (.a (.c 1) (.p 1 .y))) (.a (.m 2 (.a (.c 1) .z)) (.a (.a .u (.v 4)) (.m 2 (.v 5))))) [(2,.w (.v 6) (.v 5)),Gl .y (.a (.m 2 .z) (.v 4)),Gl .x (.a (.m 2 (.v 6)) .u)] rfl hz ‹j<=(2:Nat)*gx ps+(2:Nat)*Z*((Except.ok vs,c1).snd-c)› ‹j2<=(2:Nat)*sz g.snd.snd+(2:Nat)*Z*((Except.error w,c2).snd-(c1+(1:Nat)))›)) (((s1.trans h).trans (Runs.one key)).fails h2)
end
theorem zK {fs:List ey} {H Z K:Nat} {a0 a1 a2:Slot} (pw:PW fs cs H) (hZ:∀f k,cnt cs f=some k->sz (fnOf fs f).2.2<=Z):∀(n:Nat) (t:T) (env:Env) (c:Nat) (ns:List Str) (r:Nat),gz ns cs r t=true->Gm ns env->En H m n t c->
  ∀ts us:List D,ts.length+9*n<=1000000->us.length+9*n<=1000000->fJ ⟨K,a0,a1,a2,fD fs,m⟩ c ts us [tk ba (bz t) env] (2*sz t+2*Z*((tv fs m n t env c).2-c)) (jz (tv fs m n t env c)):=by
 intro n
 induction n with
 |zero=>intro t env c ns r _ _ h;exact absurd (Zh (rB t) (Zh (Zl _ _) h)) (by decide)
 |succ n ih=>
  intro t env c ns r hb hv he ts us FU FT;have l9:=kL FU;have u0:us.length<Sz:=Zf (Zl _ _) (kL FT);cases r with
  |zero=>cases hb
  |succ r=>
   have dN:∀u,gz ns cs r u=true->ht u+1<=ht t-> ∀c',c<=c'->Tok (n+61) fs m env u c' (tv fs m n u env c')/\ ∀ts us:List D,ts.length+9*n<=1000000->us.length+9*n<=1000000->fJ ⟨K,a0,a1,a2,fD fs,m⟩ c' ts us [tk ba (bz u) env] (2*sz u+2*Z*((tv fs m n u env c').2-c')) (jz (tv fs m n u env c')):=
    λu hu hh c' hc=>⟨kq pw n u env c' ns r hu hv (he.sub hh hc),ih u env c' ns r hu hv (he.sub hh hc)⟩
   cases t with
   |val d=>exact o7 (wZ (K+60) (fD fs) m c ts us env d u0) (Zi _)
   |nam x=>
    refine aX (hv x (bY.mp hb)) λv q=>?_
    have:lk env x=v:=by unfold lk;rw[q.1];rfl
    show fJ _ _ _ _ _ _ (.ok [lk env x],c)
    exact Er this (o7 (t:=.nam x) (w5 (K+60) (fD fs) m c ts us env x v q.1 u0) (Zi _))
   |ref x=>
    exact .err x 1 rfl (by show 1<=2*1+_;exact(L0 [2*Z*((tv fs m (n+1) (T.ref x) env c).snd-c)] (.c 1) (.a (.m 2 (.c 1)) .x) rfl)) (iu.one (iP (K+61) _ _ _ _ _ env _ c ts us (.error x) (.inr ⟨_,rfl⟩) (w2 (K+59) (fD fs) m c ts us env (bY.mp hb))))
   |iff ps=>
    have hb:(decide (ps.length=3)&&ps.all (gz ns cs r))=true:=hb;rw[Z8]at hb;obtain⟨h3,ha⟩:=hb;refine ag λG g=>?_
    refine iM (HU (YZ h3)) λa b e U=>?_;subst U
    refine g ?_
    .have hh:∀u∈ [a,b,e],ht u+1<=ht (.iff [a,b,e]):=λu hu=>by
      have:=gX hu;exact(L1 [ht u,hV [a,b,e]] (.p 1 .x) (.a (.c 1) .y) .x .y rfl this)
     have go:∀u∈ [a,b,e], ∀c',c<=c'->_:=λu hu c' hc=>dN u ((all_eq_true.mp ha) u hu) (hh u hu) c' hc
     have Q:=go a (by simp) c (Zi _);exact zJ (F:=λc' x=>match x with|true=>tv fs m n e env c'|false=>tv fs m n b env c') FU FT Q.1.vg Q.1.up Q.2 λx c' hc=>by
      cases x with
      |true=>obtain⟨te,se⟩:=go e (by simp) c' hc;exact⟨te.up,se⟩
      |false=>have j:=go b (by simp) c' hc;exact⟨j.1.up,j.2⟩
   |doo op ps=>
    have hb:(gq op&&(bD op ps.length&&ps.all (gz ns cs r)))=true:=hb;rw[Z8,Z8]at hb;obtain⟨ho,hb⟩:=hb;have hk:=hb.1;have ha:=hb.2;have h8:=Mf hk;have go:∀u∈ps, ∀c',c<=c'->_:=λu hu c' hc=>dN u ((all_eq_true.mp ha) u hu) (by have:=gX hu;show ht u+1<=1+hV ps;exact(L1 [ht u,hV ps] (.p 1 .x) (.a (.c 1) .y) .x .y rfl this)) c' hc
    have hl:=gO (n+61) fs m c env (.fz (bz (.doo op ps))) .no .no .no (λt c=>tv fs m n t env c) ps [] c .no .no (λu hu c' hc=>(go u hu c' hc).1) (Zi _) (by show 0+ps.length<=1000;exact(L1 [ps.length] (.a (.c 0) .x) (.c 1000) .x (.c 8) rfl h8));have hs:=(o6 (M:=⟨K,a0,a1,a2,fD fs,m⟩) (Z:=Z) (A:=9*n) (env:=env) (λt c=>tv fs m n t env c) ps c (ts++[tk iY (bz (.doo op ps)) env]) us (λu hu c' hc=>⟨(go u hu c' hc).1.up,(go u hu c' hc).2⟩) (by refine Er ZI ?_;show ts.length+1+ps.length+9*n<=1000000;exact(Ln [ts.length,ps.length,n] (.w (.a (.a (.p 1 .x) .y) (.m 9 .z)) (.c 1000000)) [Gl (.a .x (.m 9 (.p 1 .z))) (.c 1000000),Gl .y (.c 8)] rfl FU h8)) (Ln [us.length,ps.length,n] (.w (.a (.a .x .y) (.m 9 .z)) (.c 1000000)) [Gl (.a .x (.m 9 (.p 1 .z))) (.c 1000000),Gl .y (.c 8)] rfl FT h8)).2;refine DH FU FT h8 hs λvs e=>?_
    cases hl with
    |err x _ _ _ e1=>rw[e1]at e;exact iX e
    |ok ws e1 _ e3 e4 _=>
     rw[e1]at e;obtain rfl:=iE e;exact⟨e4,Bq (K+1) ho (e4▸hk) e3⟩
   |call f ps=>
    have hb:(decide (cnt cs f=some ps.length)&&ps.all (gz ns cs r))=true:=hb;rw[Z8]at hb;obtain⟨hk,ha⟩:=hb;have fo:=pw.fn f _ (YZ hk);have h6:=fo.k6;have go:∀u∈ps, ∀c',c<=c'->_:=λu hu c' hc=>dN u ((all_eq_true.mp ha) u hu) (by have:=gX hu;show ht u+1<=1+hV ps;exact(L1 [ht u,hV ps] (.p 1 .x) (.a (.c 1) .y) .x .y rfl this)) c' hc
    have hl:=gO (n+61) fs m c env (.fz (bz (.call f ps))) .no .no .no (λt c=>tv fs m n t env c) ps [] c .no .no (λu hu c' hc=>(go u hu c' hc).1) (Zi _) (by show 0+ps.length<=1000;exact(L1 [ps.length] (.a (.c 0) .x) (.c 1000) .x (.c 6) rfl h6));obtain⟨up,hs⟩:=o6 (M:=⟨K,a0,a1,a2,fD fs,m⟩) (Z:=Z) (A:=9*n) (env:=env) (λt c=>tv fs m n t env c) ps c (ts++[tk cv (bz (.call f ps)) env]) us (λu hu c' hc=>⟨(go u hu c' hc).1.up,(go u hu c' hc).2⟩) (by rw[ZI];show ts.length+1+ps.length+9*n<=1000000;exact(Ln [ts.length,ps.length,n] (.w (.a (.a (.p 1 .x) .y) (.m 9 .z)) (.c 1000000)) [Gl (.a .x (.m 9 (.p 1 .z))) (.c 1000000),Gl .y (.c 6)] rfl FU h6)) (Ln [us.length,ps.length,n] (.w (.a (.a .x .y) (.m 9 .z)) (.c 1000000)) [Gl (.a .x (.m 9 (.p 1 .z))) (.c 1000000),Gl .y (.c 6)] rfl FT h6);refine vV (g:=fnOf fs f) FU FT (fo.len▸h6) fo.len fo.nd (Fo fo.find) (hZ f _ (YZ hk)) up hs λvs e=>?_
    cases hl with
    |err x _ _ _ e1=>rw[e1]at e;exact iX e
    |ok ws e1 _ e3 e4 _=>
     rw[e1]at e;obtain rfl:=iE e;refine⟨e4,λhm=>?_⟩;exact⟨(kq pw n _ _ _ _ _ fo.ok (ja (fo.len.trans e4.symm) e3) (he.call fo.ht up hm)).up,ih _ _ _ _ _ fo.ok (ja (fo.len.trans e4.symm) e3) (he.call fo.ht up hm) ts us (L1 [ts.length,n] (.a .x (.m 9 .y)) (.c 1000000) (.a .x (.m 9 (.p 1 .y))) (.c 1000000) rfl FU) (L1 [us.length,n] (.a .x (.m 9 .y)) (.c 1000000) (.a .x (.m 9 (.p 1 .y))) (.c 1000000) rfl FT)⟩
   |odd b=>cases hb
structure Ct {α:Type} (m:Nat) (R:Except Str α×Nat):Prop where
 le:R.2<=m+1
 ok:∀v,R.1 = .ok v->R.2<=m
theorem Dg {f:T->Nat->Except Str D×Nat} (h:∀t c,c<=m->Ct m (f t c)):∀(ps:List T) (c:Nat),c<=m->Ct m (oI f ps c):=by
 intro ps
 induction ps with
 |nil=>exact @λc hc=>⟨le_succ_of_le hc,λaa aA=>hc⟩
 |cons p ps ih=>
  intro c hc;have h1:=h p c hc;rw[kj]
  rcases hf:f p c with⟨r,c1⟩
  rw[hf]at h1;cases r with
  |error e=>exact⟨h1.le,λv e=>by cases e⟩
  |ok v=>
   have h2:=ih c1 (h1.ok v rfl);dsimp only
   rcases hg:oI f ps c1 with⟨r2,c2⟩
   rw[hg]at h2;cases r2 with
   |error e=>exact⟨h2.le,λv e=>by cases e⟩
   |ok vs=>exact⟨h2.le,λaa aA=>h2.ok vs rfl⟩
theorem I6 {F:Nat->Bool->Except Str D×Nat} (h:Ct m R) (g:∀c,c<=m-> ∀x,Ct m (F c x)):Ct m (Ij R F):=by
 obtain⟨r,c1⟩:=R;cases r with
 |error e=>exact⟨h.le,λv e=>by cases e⟩
 |ok v=>
  have E5:=h.ok v rfl;have no:Ct m ((.error ao,c1):Except Str D×Nat):=⟨h.le,λv e=>by cases e⟩
  cases v with
  |int i=>
   show Ct m (if i=0 then F c1 true else F c1 false)
   split
   .exact g c1 E5 true
   .exact g c1 E5 false
  |_=>exact no
theorem GS (fs:List ey) (m:Nat):∀(n:Nat) (t:T) (env:Env) (c:Nat),c<=m->Ct m (tv fs m n t env c):=by
 intro n
 induction n with
 |zero=>intro t env c hc;exact⟨le_succ_of_le hc,λv e=>by exact iX e⟩
 |succ n ih=>
  intro t env c hc;have z:∀ {r:Except Str D},Ct m (r,c):=⟨le_succ_of_le hc,λaa aA=>hc⟩
  have l:∀ps,Ct m (oI (λt c=>tv fs m n t env c) ps c):=λps=>Dg (λt c hc=>ih t env c hc) ps c hc
  cases t with
  |val d=>exact z
  |nam x=>exact z
  |ref x=>exact z
  |odd b=>exact z
  |iff ps=>
   match ps with
   |[a,b,e]=>
    exact I6 (F:=λc x=>match x with|true=>tv fs m n e env c|false=>tv fs m n b env c) (ih a env c hc) λc hc x=>by cases x<;>exact ih _ _ _ hc
   |[]=>exact z
   |[_]=>exact z
   |[_,_]=>exact z
   |_::_::_::_::_=>exact z
  |doo op ps=>
   show Ct m (IZ (oI (λt c=>tv fs m n t env c) ps c) (dn op))
   have h1:=l ps
   rcases hf:oI (λt c=>tv fs m n t env c) ps c with⟨r,c1⟩
   rw[hf]at h1;cases r with
   |error e=>exact⟨h1.le,λv e=>by exact iX e⟩
   |ok vs=>exact⟨h1.le,λaa aA=>h1.ok vs rfl⟩
  |call f ps=>
   show Ct m (Jf m (oI (λt c=>tv fs m n t env c) ps c) λc vs=>tv fs m n (fnOf fs f).2.2 (kv (fnOf fs f).2.1 vs) (c+1))
   have h1:=l ps
   rcases hf:oI (λt c=>tv fs m n t env c) ps c with⟨r,c1⟩
   rw[hf]at h1;cases r with
   |error e=>exact⟨h1.le,λv e=>by exact iX e⟩
   |ok vs=>
    show Ct m (if m<c1+1 then(.error aB,c1+1) else tv fs m n (fnOf fs f).2.2 (kv (fnOf fs f).2.1 vs) (c1+1))
    by_cases q:m<c1+1
    .exact Er (Y0 q) (⟨Nat.succ_le_succ (h1.ok vs rfl),λv e=>by exact iX e⟩)
    .exact Er (Y1 q) (ih _ _ _ (Nat.not_lt.mp q))
theorem v7 (K:Nat) {nm:Str} {ps:List Str} {b:T} {fs:List ey} {ins:List D} (pw:PW ((nm,ps,b)::fs) cs 20) (nd:(((nm,ps,b)::fs).map (·.1)).Nodup) (hc:cnt cs nm=some ins.length) (hm:m<=9) (hi:∀v∈ins,Vg v):
  cF P (K+63) false 9 [.fz (fF ((nm,ps,b)::fs)),.fz (.tuple ins),.fz (.int m)]=fC (tv ((nm,ps,b)::fs) m 250 b (kv ps ins) 0).1:=by
 have f0:fnOf ((nm,ps,b)::fs) nm=(nm,ps,b):=by unfold fnOf;refine Er (find?_cons) (Er (Y5 rfl) ?_);rfl
 obtain⟨_,hl,h6,KT,hb,hh⟩:=(pw.fn nm _ hc)
 rw[f0]at hl KT hb hh;dsimp only at hl KT hb hh;have c8:∀f k,cnt cs f=some k->k<=8:=λf k h=>Zh (pw.fn f k h).k6 (by decide)
 have hZ:∀f k,cnt cs f=some k->sz (fnOf ((nm,ps,b)::fs) f).2.2<=1152921504606846976:=λf k h=>by
  have:=(mi c8 20 _ (pw.fn f k h).ok).1;have e:(8:Nat) ^ 20=1152921504606846976:=by decide
  rw[e]at this;exact(bC [sz (fnOf ((nm,ps,b)::fs) f).snd.snd] [] 7 (.w .x (.c 1152921504606846976)) [Gl (.p 1 (.m 7 .x)) (.c 1152921504606846976)] rfl this)
 have N6:sz b<=1152921504606846976:=by have:=hZ nm _ hc;rw[f0]at this;exact this
 have S:=zK (K:=K) (m:=m) (a0:=.fz (fF ((nm,ps,b)::fs))) (a1:=.fz (.tuple ins)) (a2:=.fz (.int m)) pw hZ 250 b (kv ps ins) 0 ps 20 hb (ja hl hi) (by unfold En;have:=hh;omega) [] [] (by decide) (by decide);have C:=(GS ((nm,ps,b)::fs) m 250 b (kv ps ins) 0 (Zc _)).le;have h1:=AQ (K+61) ((nm,ps,b)::fs) m nd pw.len;have h2:=qg (K+61) (fD ((nm,ps,b)::fs)) m 0 [] [] ps (bz b) (.tuple ins) (.tuple ins) (kv ps ins) (rW KT hl (hl▸h6)) (by decide)
 rcases hR:tv ((nm,ps,b)::fs) m 250 b (kv ps ins) 0 with⟨r,c1⟩
 rw[hR]at S C;have C:c1<=m+1:=C;have jb:∀j,j<=2*sz b+2*1152921504606846976*(c1-0)->j+1<=Wz:=λj hj=>by
  have:2*1152921504606846976*(c1-0)<=2*1152921504606846976*10:=mul_le_mul_left _ (Ln [c1-0,m,c1] (.w .x (.c 10)) [Gl .y (.c 9),Gl .z (.p 1 .y),Ge (.p 0 .x) .z] rfl hm ‹(r,c1).snd<=m+(1:Nat)› (Zd (n:=c1) (m:=0) (L0 [c1] (.c 0) .x rfl)));exact(Ln [j,sz b,2*1152921504606846976*(c1-0),2*1152921504606846976*10] (.w (.p 1 .x) (.c 1208925819614629174706176)) [(2,.w .y (.c 1152921504606846976)),Gl .x (.a (.m 2 .y) .z),Gl .z .u,Ge .u (.m 10 (.m 2 (.c 1152921504606846976)))] rfl N6 hj this (mul_comm ((2:Nat)*(1152921504606846976:Nat)) ((10:Nat))))
 generalize fD ((nm,ps,b)::fs)=F at S h1 h2;cases S with
 |err e j e1 hj h=>
  refine iM h λc' lF hY h=>?_
  have h:=h (Wz-j);rw[Zd (le_of_succ_le (jb j hj))]at h;cases r with
  |ok v=>exact CF e1
  |error e'=>
   cases e1;have h:=h;exact aM [.c 0 h1,.c 4 h2,.lp 0 h] rfl
 |ok vs j e1 hj h=>
  cases r with
  |error e=>exact iX e1
  |ok v=>
   obtain rfl:=iE e1;have h:=h (Wz-(j+1)+1) _ (zg (K+62) (.fz (fF ((nm,ps,b)::fs))) (.fz (.tuple ins)) (.fz (.int m)) F m c1 [v] (Wz-(j+1)));rw[Nat.add_assoc,add_comm 1 j,Zd (jb j hj)]at h;exact aM [.c 0 h1,.c 4 h2,.lp 0 h] rfl
noncomputable abbrev D4:List St:=[.iff (.not (.call 13 [.idx (af 0) (af 2),.idx (af 1) (af 2)])) [.ret (.lit (.bool false))] []]
theorem uj (N:Nat) (ds:List D) (ih:∀d∈ds,cF P N false 13 [.fz d,.fz d]=GA true):∀(ks:List Nat) (s2:Slot),(∀k∈ks,k<ds.length)->
  cU ⟨P.glob,cF P N,[],false⟩ [.fz (.tuple ds),.fz (.tuple ds),s2] (.one 2) D4 [2] (ks.map λ(k:Nat)=>.int (0+k))=some (.ok .next,[.fz (.tuple ds),.fz (.tuple ds),.no]):=by
 intro ks
 induction ks with
 |nil=>exact @λs2 aa=>by refine Er Zy ?_;rw[bN];rfl
 |cons k ks IH=>
  intro s2 h;have q:=IH (.fz (.int (0+k))) (mc h)
  obtain⟨d,e,m⟩:=bV (xs:=ds) (r:=0+(k:Int)) (Ln [k] (.i (.c 0) (.a (.c 0) (.n .x))) [] rfl) (Ln [k,ds.length] (.i (.p 1 (.a (.c 0) (.n .x))) (.n .y)) [Gl (.p 1 .x) .y] rfl (h k Zt));refine Er Zz ?_;generalize 0+(k:Int)=i at e q ⊢;exact jW [.d 0 e,.d 0 e,.c 0 ((ih d m)),.lp 2 q] rfl
theorem Ak (k:Int):au .ne (.int k) (.int k)=some false:=by
 rw[lR,oi,Y5 rfl];rfl
theorem Ey {ds:List D} (h:dG ds<=49):ds.length<=1000:=Zh (nS ds) (Zh h (by decide))
theorem sE:∀ {ds:List D} {d:D},d∈ds->cS ds=true->dF d=true/\wt d<=dG ds:=by
 intro ds d
 induction ds generalizing d with
 |nil=>exact @λh aa=>by cases h
 |cons e ds ih=>
  intro h hg;have hg:(dF e&&cS ds)=true:=hg;rw[Z8]at hg
  rcases mem_cons.mp h with rfl|h
  .exact⟨hg.1,Zl _ _⟩
  .have:=ih h hg.2;exact⟨this.1,Zh this.2 (Nat.le_add_left _ _)⟩
theorem zY:∀(N:Nat) (d:D),Vg d->wt d<=N->cF P N false 13 [.fz d,.fz d]=GA true:=by
 intro N
 induction N with
 |zero=>intro d _ h;exact absurd (Zh (m5 d) h) (by decide)
 |succ N ih=>
  intro d hv hw
  rcases hv.k with⟨i,rfl,_⟩|⟨ds,rfl,hg,Ng⟩
  .have q:au .eq (.int i) (.int i)=some true:=by rw[el];exact Er (Y5 rfl) rfl
   exact aM [.b 9 q] rfl
  .have hw:1+dG ds<=N+1:=hw
   have lp:=uj N ds (λd hd=>ih d (by
    have:=sE hd hg;exact⟨this.1,by exact(Ln [wt d,dG ds] (.w .x (.c 50)) [Gl .y (.c 49),Gl .x .y] rfl Ng this.2)⟩) (by have:=(sE hd hg).2;exact(Ln [wt d,N,dG ds] (.w .x .y) [Gl (.a (.c 1) .z) (.p 1 .y),Gl .x .z] rfl hw this))) (List.range ds.length) .no λk hk=>mem_range.mp hk
   have hr:bG .range [.int ds.length]=some ((List.range ds.length).map λ(k:Nat)=>int (0+k)):=cH ds.length (Ey Ng);have hn:=Ak ds.length;have hk:ke .len [.tuple ds]=some (.fz (.int (ds.length:Int))):=rfl;generalize (ds.length:Int)=k at hr hn hk;exact aM [.v 5 hk,.v 0 hk,.b 0 hn,.v 1 hk,.l 0 hr,.lp 0 lp] rfl
theorem v5 (N:Nat) (e:Str):cF P (N+1) false 13 [vK e,vK e]=GA true:=by
 have q:=Hw (x:=e) rfl;exact aM [.b 6 q] rfl
theorem zc (N:Nat) {e:Str} (h:e∈iH):cF P (N+1) true 21 [.exc e]=d8 (.str e):=by
 simp only[Zv,Zp,or_false]at h
 rcases h with rfl|rfl|rfl|rfl|rfl|rfl|rfl
 .exact aM [] rfl
 .exact aM [] rfl
 .exact aM [] rfl
 .exact aM [] rfl
 .exact aM [] rfl
 .exact aM [] rfl
 .exact aM [] rfl
theorem wb (N:Nat) (p i k:D) (r:Except Str D) (hg:vG r) (h:cF P (N+1) false 9 [.fz p,.fz i,.fz k]=fC r):cF P (N+2) false 22 [.fz p,.fz i,.fz k]=d8 (b3 r):=by
 cases r with
 |ok v=>exact aM [.c 0 h] rfl
 |error e=>
  have hw:=zc N hg;have hg:e∈iH:=hg;simp only[Zv,Zp,or_false]at hg
  rcases hg with rfl|rfl|rfl|rfl|rfl|rfl|rfl
  .exact aM [.c 0 h,.c 0 hw] rfl
  .exact aM [.c 0 h,.c 0 hw] rfl
  .exact aM [.c 0 h,.c 0 hw] rfl
  .exact aM [.c 0 h,.c 0 hw] rfl
  .exact aM [.c 0 h,.c 0 hw] rfl
  .exact aM [.c 0 h,.c 0 hw] rfl
  .exact aM [.c 0 h,.c 0 hw] rfl
structure ix (hs:List Hd) (fs:List ey):Prop where
 hd:(fs.map λf=>(f.1,f.2.1))=hs.map λh=>(h.nm,h.ps)
 nd:(hs.map (·.nm)).Nodup
 ps:∀h∈hs,h.ps.Nodup/\h.ps.length<=6
 ok:∀f∈fs,gz f.2.1 (gs hs) 20 f.2.2=true
 len:hs.length<=5
theorem r6 {hs:List Hd} {k:Nat} (h:cnt (gs hs) f=some k):∃g∈hs,g.nm=f:=by
 unfold cnt at h;rw[Za]at h;obtain⟨p,hp,_⟩:=h;obtain⟨g,hg,rfl⟩:=mem_map.mp (List.mem_of_find?_eq_some hp);exact⟨g,hg,YZ (List.find?_some (p:=λp:Str×Nat=>decide (p.1=f)) hp)⟩
theorem ix.lenf {hs:List Hd} {fs:List ey} (a:ix hs fs):fs.length<=5:=by
 have:=Y7 length a.hd;rw[ZG,ZG]at this;rw[this];exact a.len
theorem ix.ndf {hs:List Hd} {fs:List ey} (a:ix hs fs):(fs.map (·.1)).Nodup:=by
 have e:fs.map (·.1)=hs.map (·.nm):=by
  have:=Y7 (List.map Prod.fst) a.hd;rw[map_map,map_map]at this;exact this
 rw[e];exact a.nd
theorem ix.c6 {hs:List Hd} {fs:List ey} (a:ix hs fs) (f:Str) (k:Nat) (h:cnt (gs hs) f=some k):k<=6:=by
 obtain⟨g,hg,rfl⟩:=r6 h;rw[fX a.nd g hg]at h;cases h;exact(a.ps g hg).2
theorem B7 {hs:List Hd} {fs:List ey} (a:ix hs fs):PW fs (gs hs) 20:=by
 refine⟨λf k hk=>?_,Zh a.lenf (by decide)⟩;obtain⟨h,hm,rfl⟩:=r6 hk;have hx:(h.nm,h.ps)∈fs.map λf=>(f.1,f.2.1):=by exact Er a.hd (mem_map.mpr ⟨h,hm,rfl⟩)
 refine aX (mem_map.mp hx) λg0 q=>?_
 cases hf:fs.find? λg=>decide (g.1=h.nm) with
 |none=>exact absurd (Y5 (Y7 Prod.fst q.2)) (List.find?_eq_none.mp hf g0 q.1)
 |some g=>
  have gm:=List.mem_of_find?_eq_some hf;have e:fnOf fs h.nm=g:=by unfold fnOf;refine Er hf ?_;rfl
  have hy:(g.1,g.2.1)∈hs.map λh=>(h.nm,h.ps):=by exact Er a.hd.symm (mem_map.mpr ⟨g,gm,rfl⟩)
  obtain⟨h',Q⟩:=mem_map.mp hy;have n':h'.nm=g.1:=Y7 Prod.fst Q.2;have p':h'.ps=g.2.1:=Y7 Prod.snd Q.2;have hc:=fX a.nd h' Q.1;rw[n']at hc;have hc:=(YZ (List.find?_some (p:=λg:ey=>decide (g.1=h.nm)) hf))▸hc;have hk:=hc▸hk;refine Er (aI hk).symm ?_;exact⟨by refine Er e ?_;exact hf,by exact Er e (Er p' rfl),(a.ps h' Q.1).2,by refine Er e (Er p'.symm ?_);exact(a.ps h' Q.1).1,by refine Er e ?_;exact(a.ok g gm),by refine Er e ?_;exact(mi (λf k h=>Zh (a.c6 f k h) (by decide)) 20 _ (a.ok g gm)).2⟩
theorem F0 {hs:List Hd} {fs:List ey} (hh:fK l hs) (hp:F6 hs fs):ix hs fs:=
 ⟨hp.hd,hh.nd,λh hm=>⟨(hh.ok h hm).nd,(hh.ok h hm).le⟩,λf hf=>(hp.ok f hf).ok 20 (by decide),le_succ_of_le hh.le⟩
theorem EJ {LU:List (Str×Nat)} (hc:∀f k,cnt cs f=some k->cnt LU f=some k):∀(r:Nat) (t:T),gz ns cs r t=true->gz ns LU r t=true:=by
 intro r
 induction r with
 |zero=>exact @λt h=>by cases h
 |succ r ih=>
  intro t h;have al:∀ps:List T,ps.all (gz ns cs r)=true->ps.all (gz ns LU r)=true:=λps h=>all_eq_true.mpr λu hu=>ih u (all_eq_true.mp h u hu)
  cases t with
  |val d=>exact h
  |nam x=>exact h
  |ref x=>exact h
  |odd b=>exact h
  |iff ps=>
   exact and_eq_true_iff.mpr ⟨(and_eq_true_iff.mp (show(decide (ps.length=3)&&ps.all (gz ns cs r))=true from h)).1,al ps (and_eq_true_iff.mp (show(decide (ps.length=3)&&ps.all (gz ns cs r))=true from h)).2⟩
  |doo op ps=>
   have h:=and_eq_true_iff.mp (show(gq op&&(bD op ps.length&&ps.all (gz ns cs r)))=true from h);exact and_eq_true_iff.mpr ⟨h.1,and_eq_true_iff.mpr ⟨(and_eq_true_iff.mp h.2).1,al ps (and_eq_true_iff.mp h.2).2⟩⟩
  |call f ps=>
   have h:=and_eq_true_iff.mp (show(decide (cnt cs f=some ps.length)&&ps.all (gz ns cs r))=true from h);exact and_eq_true_iff.mpr ⟨Y5 (hc f _ (YZ h.1)),al ps h.2⟩
noncomputable def wr:Nat->T->T
 |0,t=>t
 |k+1,t=>wr k (.doo bh [t])
theorem EI:∀(k r:Nat) (t:T),gz ns cs r t=true->gz ns cs (r+k) (wr k t)=true:=by
 intro k
 induction k with
 |zero=>exact @λr t h=>h
 |succ k ih=>
  intro r t h;have h1:gz ns cs (r+1) (.doo bh [t])=true:=by
   show(gq bh&&(bD bh ([t].length)&&[t].all (gz ns cs r)))=true
   rw[all_cons,List.all_nil,h];rfl
  have:=ih (r+1) _ h1;rw[show r+(k+1)=r+1+k by exact(Zk (L0 [r,k] (.a .x (.p 1 .y)) (.a (.p 1 .x) .y) rfl) (L0 [r,k] (.a (.p 1 .x) .y) (.a .x (.p 1 .y)) rfl))];exact this
noncomputable abbrev My:List St:=[.asg (.one 7) (.tup [.lit (S [100,111]),.lit (S [108,105,115,116]),.tup [af 7]])]
theorem zt (N:Nat) (a0 a1 a2 a3 a4 a5 a6 a9:Slot):∀(items:List D) (t:T) (s8:Slot),cU ⟨P.glob,cF P N,[],false⟩ [a0,a1,a2,a3,a4,a5,a6,.fz (bz t),s8,a9] (.one 8) My [8] items=some (.ok .next,[a0,a1,a2,a3,a4,a5,a6,.fz (bz (wr items.length t)),.no,a9]):=by
 intro items
 induction items with
 |nil=>exact @λt s8=>by rw[bN];rfl
 |cons i items IH=>
  intro t s8;have ih:=IH (.doo bh [t]) (.fz i);rw[(rfl:bz (.doo bh [t]) = .tuple [.str iY,.str bh,.tuple [bz t]])]at ih;generalize bz (wr items.length (.doo bh [t]))=z at ih ⊢;generalize bz t=x at ih ⊢;exact jW [.lp 0 ih] rfl
theorem Ah (N:Nat) (a0 a1 a2 a3 a4 a5 a6 a7 a8:Slot):∀(ps:List Str) (s9:Slot),bH ⟨P.glob,cF P N,[],false⟩ [a0,a1,a2,a3,a4,a5,a6,a7,a8,s9] (.tup [.lit (S [110,97,109,101]),af 9]) (.one 9) [] (ps.map .str)=some (.ok (bu (ps.map .nam)),[a0,a1,a2,a3,a4,a5,a6,a7,a8,.no]):=by
 intro ps
 induction ps with
 |nil=>exact @λs9=>by rw[Zy,cP];rfl
 |cons p ps IH=>
  intro s9;have ih:=IH (vK p);show _=some ((.ok (.tuple [.str xo,.str p]::bu (ps.map .nam)):Except Str (List D)),_)
  rw[Zz];generalize bu (ps.map .nam)=z at ih ⊢;exact y4 [.cp 0 ih] rfl
noncomputable abbrev D3 (xs:List Int):Slot:=.fz (.list (xs.map .int))
theorem Dj (N:Nat) (s:D) (hl:List D) (p:D) (c:Int) (hc:cF P (N+1) false 10 [.fz s,.fz (.int 20)]=d8 (.int c)) (q:au .ne (.int (c.fmod 6)) (.int 1)=some true):cF P (N+2) false 34 [.fz s,.fz (.list hl),.fz p]=d8 (.tuple [.list hl,p]):=by exact aM [.c 0 hc,.b 1 q] rfl
theorem zu (N:Nat) (s:D) (hl pl:List D) (nm:Str) (ps:List Str) (wn z:D) (y items:List D) (c k:Int) (hc:cF P (N+1) false 10 [.fz s,.fz (.int 20)]=d8 (.int c)) (q:au .ne (.int (c.fmod 6)) (.int 1)=some false)
  (x0:nX (.list hl) (.int 0)=some (.tuple [.str nm,d4 ps,wn])) (ha:op2 .add (.int 1) (.int ((c.fdiv 6).fmod 17))=some (.fz (.int k))) (hr:bG .range [.int k]=some items)
  (cp:bH ⟨P.glob,cF P (N+1),[],false⟩ [.fz s,.fz (.list hl),.fz (.tuple pl),.fz (.int c),vK nm,.fz (d4 ps),.fz wn,.no,.no,.no] (.tup [.lit (S [110,97,109,101]),af 9]) (.one 9) [] (ps.map .str)=some (.ok y,[.fz s,.fz (.list hl),.fz (.tuple pl),.fz (.int c),vK nm,.fz (d4 ps),.fz wn,.no,.no,.no]))
  (lp:cU ⟨P.glob,cF P (N+1),[],false⟩ [.fz s,.fz (.list hl),.fz (.tuple pl),.fz (.int c),vK nm,.fz (d4 ps),.fz wn,.fz (.tuple [.str cv,.str nm,.tuple y]),.no,.no] (.one 8) My [8] items=some (.ok .next,[.fz s,.fz (.list hl),.fz (.tuple pl),.fz (.int c),vK nm,.fz (d4 ps),.fz wn,.fz z,.no,.no]))
  (o1:hl.length<=1000) (o2:pl.length<=1000):cF P (N+2) false 34 [.fz s,.fz (.list hl),.fz (.tuple pl)]=d8 (.tuple [.list (.tuple [.str ek,d4 ps,wn]::hl),.tuple (.tuple [.str ek,d4 ps,z]::pl)]):=by
 have o1:op2 .add (.list [.tuple [.str ek,d4 ps,wn]]) (.list hl)=some (.own (.list (.tuple [.str ek,d4 ps,wn]::hl))):=by
  rw[El];refine Er (Y0 (by show 1+hl.length<=16777216;exact(L1 [hl.length] (.a (.c 1) .x) (.c 16777216) .x (.c 1000) rfl o1))) ?_;rfl
 have o2:op2 .add (.tuple [.tuple [.str ek,d4 ps,z]]) (.tuple pl)=some (.fz (.tuple (.tuple [.str ek,d4 ps,z]::pl))):=by
  rw[wy];refine Er (Y0 (by show 1+pl.length<=16777216;exact(L1 [pl.length] (.a (.c 1) .x) (.c 16777216) .x (.c 1000) rfl o2))) ?_;rfl
 exact aM [.c 0 hc,.b 1 q,.d 1 x0,.cp 1 cp,.v 3 ha,.l 0 hr,.lp 0 lp,.v 0 o1,.v 0 o2] rfl
inductive yT (N:Nat) (xs:List Int) (hs:List Hd) (fs:List ey):Prop
 |mk (h0:Hd) (hr:List Hd) (b:T) (fr:List ey):cF P (N+2) false 34 [D3 xs,sH hs,.fz (fF fs)]=d8 (.tuple [.list ((h0::hr).map cN),fF ((h0.nm,h0.ps,b)::fr)])->ix (h0::hr) ((h0.nm,h0.ps,b)::fr)->yT N xs hs fs
theorem ub (N:Nat) (xs:List Int) {hs:List Hd} {fs:List ey} (hh:fK l hs) (hp:F6 hs fs):yT N xs hs fs:=by
 have a:=F0 hh hp;refine aX (cell N xs 20 (by decide)) λc hc=>?_
 refine ag λG g=>?_
 cases hs with
 |nil=>exact absurd hh.pos (by decide)
 |cons h0 hr=>
 cases fs with
 |nil=>cases a.hd
 |cons f fr=>
  obtain⟨f0,p0,b⟩:=f;refine g ?_;have e0:=a.hd;rw[Zz,Zz]at e0;have e1:f0=h0.nm:=Y7 Prod.fst (List.cons.inj e0).1;have e2:p0=h0.ps:=Y7 Prod.snd (List.cons.inj e0).1;subst e1 e2
  by_cases q:c.fmod 6=1
  .have q1:au .ne (.int (c.fmod 6)) (.int 1)=some false:=by rw[lR,oi];refine Er (Y5 q) ?_;rfl
   obtain⟨k,hk⟩:∃k:Nat,1+(c.fdiv 6).fmod 17=(k:Int):=⟨(1+(c.fdiv 6).fmod 17).toNat,by exact(ZX (bC [((1:Int)+(c.fdiv (6:Int)).fmod (17:Int)).toNat] [(c.fdiv (6:Int)).fmod (17:Int)] 1 (.i (.a (.c 1) .x) (.n .x)) [Gk (.n .x) (.a (.c 1) .x)] rfl (ZS (a:=(1:Int)+(c.fdiv (6:Int)).fmod (17:Int)) (Li [(c.fdiv (6:Int)).fmod (17:Int)] (.i (.c 0) (.a (.c 1) .x)) [Gi (.c 0) .x] rfl ((fm (c.fdiv 6) 17 (by decide))).1))) (bC [((1:Int)+(c.fdiv (6:Int)).fmod (17:Int)).toNat] [(c.fdiv (6:Int)).fmod (17:Int)] 1 (.i (.n .x) (.a (.c 1) .x)) [Gj (.n .x) (.a (.c 1) .x)] rfl (ZS (a:=(1:Int)+(c.fdiv (6:Int)).fmod (17:Int)) (Li [(c.fdiv (6:Int)).fmod (17:Int)] (.i (.c 0) (.a (.c 1) .x)) [Gi (.c 0) .x] rfl ((fm (c.fdiv 6) 17 (by decide))).1))))⟩
   have KZ:k<=17:=by exact(bC [k] [(c.fdiv (6:Int)).fmod (17:Int)] 1 (.w .x (.c 17)) [Gi (.p 1 .x) (.c 17),Gk (.a (.c 1) .x) (.n .x)] rfl ((fm (c.fdiv 6) 17 (by decide))).2 hk)
   have ha:op2 .add (.int 1) (.int ((c.fdiv 6).fmod 17))=some (.fz (.int (k:Int))):=by rw[Em];exact Er hk rfl
   have lp:=zt (N+1) (D3 xs) (sH (h0::hr)) (.fz (fF ((h0.nm,h0.ps,b)::fr))) (.fz (.int c)) (vK h0.nm) (.fz (d4 h0.ps)) (.fz (.tuple (h0.wn.map .bool))) .no ((List.range k).map λ(k:Nat)=>int (0+k)) (.call h0.nm (h0.ps.map .nam)) .no;rw[ZG,ZE]at lp;rw[(rfl:bz (.call h0.nm (h0.ps.map .nam)) = .tuple [.str cv,.str h0.nm,.tuple (bu (h0.ps.map .nam))])]at lp;have tn:ek∉(h0::hr).map (·.nm):=λm=>hh.nm.zz (hh.mem _ m)
   have cc:∀f k,cnt (gs (h0::hr)) f=some k->cnt (gs (⟨ek,h0.ps,h0.wn⟩::h0::hr)) f=some k:=λf k hf=>by
    refine aX (r6 hf) λg z=>?_;obtain rfl:=z.2
    unfold cnt gs;exact Er Zz (Er (find?_cons) (Er (Y6 (λ(e:ek=g.nm)=>tn (by refine Er e ?_;exact mem_map.mpr ⟨g,z.1,rfl⟩))) hf))
   refine⟨⟨ek,h0.ps,h0.wn⟩,h0::hr,wr k (.call h0.nm (h0.ps.map .nam)),(h0.nm,h0.ps,b)::fr,?_,?_,?_,?_,?_,?_⟩
   .exact zu N _ ((h0::hr).map cN) (((h0.nm,h0.ps,b)::fr).map fG) h0.nm h0.ps (.tuple (h0.wn.map .bool)) (bz (wr k (.call h0.nm (h0.ps.map .nam)))) (bu (h0.ps.map .nam)) _ c k hc q1 rfl ha (cH k (L1 [k] .x (.c 1000) .x (.c 17) rfl KZ)) (Ah (N+1) (D3 xs) (sH (h0::hr)) (.fz (fF ((h0.nm,h0.ps,b)::fr))) (.fz (.int c)) (vK h0.nm) (.fz (d4 h0.ps)) (.fz (.tuple (h0.wn.map .bool))) .no .no h0.ps .no) lp (by rw[ZG];exact Zh hh.le (by decide)) (by rw[ZG];exact Zh a.lenf (by decide))
   .show(ek,h0.ps)::(((h0.nm,h0.ps,b)::fr).map λf=>(f.1,f.2.1))=(ek,h0.ps)::((h0::hr).map λh=>(h.nm,h.ps))
    exact Er a.hd rfl
   .exact nodup_cons.mpr ⟨tn,a.nd⟩
   .intro h hm
    rcases mem_cons.mp hm with rfl|hm
    .exact a.ps h0 Zt
    .exact a.ps h hm
   .intro f hf
    rcases mem_cons.mp hf with rfl|hf
    .have h1:gz h0.ps (gs (⟨ek,h0.ps,h0.wn⟩::h0::hr)) (18-k+2) (.call h0.nm (h0.ps.map .nam))=true:=by
      refine and_eq_true_iff.mpr ⟨Y5 (by refine Er (cc _ _ (fX a.nd h0 Zt)) ?_;rw[ZG]),all_eq_true.mpr λu hu=>?_⟩;refine aX (mem_map.mp hu) λx Q=>?_;refine Er Q.2.symm ?_
      exact bY.mpr Q.1
     have:=EI k _ _ h1;rw[show 18-k+2+k=20 by exact(Zk (Ln [18-k,k] (.w (.a (.p 2 .x) .y) (.c 20)) [Ge (.a .x .y) (.c 18)] rfl (Zd (n:=18) (m:=k) (L1 [k] .x (.c 18) .x (.c 17) rfl KZ))) (Ln [18-k,k] (.w (.c 20) (.a (.p 2 .x) .y)) [Gf (.a .x .y) (.c 18)] rfl (Zd (n:=18) (m:=k) (L1 [k] .x (.c 18) .x (.c 17) rfl KZ))))]at this;exact this
    .exact EJ cc 20 _ (a.ok f hf)
   .have:hr.length+1<=4:=hh.le
    exact(L1 [hr.length] (.p 1 (.p 1 .x)) (.c 5) (.p 1 .x) (.c 4) rfl hh.le)
  .have q1:au .ne (.int (c.fmod 6)) (.int 1)=some true:=by rw[lR,oi];refine Er (Y6 q) ?_;rfl
   exact⟨h0,hr,b,fr,Dj N _ _ _ c hc q1,a⟩
theorem AR (N:Nat) (xs:List Int) (a1 a2 a3 a4 a5 a6 a7:Slot):∀(ks:List Nat) (s8:Slot),vC (λds=>bH ⟨P.glob,cF P (N+1),[],false⟩ [D3 xs,a1,a2,a3,a4,a5,a6,a7,s8] (.call 12 [.call 10 [af 0,(.op2 .add (aj 12) (af 8))]]) (.one 8) [] (ks.map λ(k:Nat)=>.int (0+k))=some (.ok ds,[D3 xs,a1,a2,a3,a4,a5,a6,a7,.no])) (λds=>ds.length=ks.length) (λds=> ∀d∈ds,Vg d):=by
 intro ks
 induction ks with
 |nil=>exact @λs8=>⟨[],by refine Er Zy ?_;rw[cP];rfl,rfl,λd h=>by cases h⟩
 |cons k ks IH=>
  intro s8;refine ag λG g=>?_
  obtain⟨ds,ih,hl,hv⟩:=IH (.fz (.int (0+k)));refine aX (cell N xs (12+(0+(k:Int))) (Ln [k] (.i (.c 0) (.a (.c 12) (.a (.c 0) (.n .x)))) [] rfl)) λc hc=>?_
  obtain⟨d,hd,vd⟩:=oO N c;refine g ?_;refine⟨d::ds,?_,Y7 (· + 1) hl,λe he=>?_⟩
  .refine Er Zz ?_
   generalize 0+(k:Int)=i at ih hc ⊢;exact y4 [.c 1 hc,.c 0 hd,.cp 0 ih] rfl
  .rcases mem_cons.mp he with rfl|he
   .exact vd.vg
   .exact hv e he
theorem As (N:Nat) {nm:Str} {ps:List Str} {b:T} {fs:List ey} {ins:List D} (nd:ps.Nodup) (hl:ps.length=ins.length) (h6:ps.length<=6) (h:cF P N false 19 (B4 ((nm,ps,b)::fs) b (kv ps ins) 0 m)=GY m R):
  cF P (N+1) false 20 [.fz (fF ((nm,ps,b)::fs)),.fz (.tuple ins),.fz (.int m)]=d8 (b3 R.1):=by
 have hz:=rW nd hl h6;exact aM [.v 4 hz,.c 0 h] rfl
noncomputable abbrev aP:List ey:=[(⟨[97].toArray⟩,[],.call ⟨[97].toArray⟩ [])]
noncomputable abbrev aH:List Hd:=[⟨⟨[97].toArray⟩,[],[]⟩]
theorem CO:ix aH aP:=⟨rfl,by decide,λh hm=>by rw[mem_singleton.mp hm];decide,λf hf=>by rw[mem_singleton.mp hf];decide,by decide⟩
theorem Mg:(tv aP 3 250 (.call ⟨[97].toArray⟩ []) (kv [] []) 0).1 = .error aB:=by kernel_rfl
theorem CN:cF P 312 false 22 [.fz (fF aP),.fz (.tuple []),.fz (.int 3)]=d8 (b3 (.error aB)):=by
 have h:=v7 248 (ins:=[]) (m:=3) (B7 CO) CO.ndf rfl (by decide) (λv hv=>by cases hv);rw[Mg]at h;exact wb 310 _ _ _ (.error aB) (show aB∈iH by decide) h
noncomputable abbrev GT:List St:=[.asg (.one 7) (.call 22 [af 2,af 3,af 4]),
   .iff (.or [.cmp .ne (.idx (af 7) (aj 0)) (.idx (af 5) (aj 0)),.not (.call 13 [(.idx (af 7) (aj 1)),(.idx (af 5) (aj 1))])]) [.ret (.lit (.bool false))] [],
   .iff (.cmp .ne (.call 22 [(.tup [.tup [(.lit (S [97])),(.tup []),(.tup [(.lit (S [99,97,108,108])),(.lit (S [97])),(.tup [])])]]),.tup [],aj 3]) (.tup [.lit (.bool false),.lit (S [84,111,111,76,111,110,103])])) [.ret (.lit (.bool false))] []]
theorem BZ (a0 a1 a8:Slot) (p i:D) (m:D) (r:Except Str D) (hr:cF P 312 false 22 [.fz p,.fz i,.fz m]=d8 (b3 r)) (hg:vG r):∀(items:List D) (s6 s7:Slot),
  cU ⟨P.glob,cF P 312,[],false⟩ [a0,a1,.fz p,.fz i,.fz m,.fz (b3 r),s6,s7,a8] (.one 6) GT [6,7] items=some (.ok .next,[a0,a1,.fz p,.fz i,.fz m,.fz (b3 r),.no,.no,a8]):=by
 intro items
 induction items with
 |nil=>exact @λs6 s7=>by rw[bN];rfl
 |cons t items IH=>
  intro s6 s7;have ih:=IH (.fz t) (.fz (b3 r));cases r with
  |ok v=>
   exact jW [.c 0 hr,.c 6 ((zY 312 v hg (Zh (Vg.w hg) (by decide)))),.c 2 CN,.lp 2 ih] rfl
  |error e=>
   exact jW [.c 0 hr,.c 6 ((v5 311 e)),.c 2 CN,.lp 2 ih] rfl
theorem law_ok (xs:List Int):cF P 313 false 35 [D3 xs]=GA true:=by
 refine ag λG g=>?_
 refine iM (xG 310 xs) λl hs r q=>?_
 obtain⟨fs,hf,hp⟩:=qY 291 xs q.2.1;obtain⟨h0,Ka,b,fr,ht,a⟩:=ub 310 xs q.2.1 hp;have p6:=a.ps h0 Zt;obtain⟨ins,hc,hl,hv⟩:=AR 311 xs (.fz (.list ((h0::Ka).map cN))) (.fz (fF ((h0.nm,h0.ps,b)::fr))) .no .no .no .no .no (List.range h0.ps.length) .no;have hl:=ZE▸hl;refine aX (cell 311 xs 15 (by decide)) λsj IQ=>?_
 obtain⟨m,hm⟩:∃m:Nat,sj.fmod 10=(m:Int):=⟨(sj.fmod 10).toNat,by exact(ZX (bC [(sj.fmod (10:Int)).toNat] [sj.fmod (10:Int)] 1 (.i .x (.n .x)) [Gk (.n .x) .x] rfl (ZS (a:=sj.fmod (10:Int)) (Li [sj.fmod (10:Int)] (.i (.c 0) .x) [Gi (.c 0) .x] rfl ((fm sj 10 (by decide))).1))) (bC [(sj.fmod (10:Int)).toNat] [sj.fmod (10:Int)] 1 (.i (.n .x) .x) [Gj (.n .x) .x] rfl (ZS (a:=sj.fmod (10:Int)) (Li [sj.fmod (10:Int)] (.i (.c 0) .x) [Gi (.c 0) .x] rfl ((fm sj 10 (by decide))).1))))⟩
 have m9:m<=9:=by exact(bC [m] [sj.fmod (10:Int)] 1 (.w .x (.c 9)) [Gi (.p 1 .x) (.c 10),Gk .x (.n .x)] rfl ((fm sj 10 (by decide))).2 hm)
 have Is:op2 .mod (.int sj) (.int 10)=some (.fz (.int (m:Int))):=by rw[gi];exact Er (Y1 (by decide)) (Er hm rfl)
 have pw:=B7 a;have f0:fnOf ((h0.nm,h0.ps,b)::fr) h0.nm=(h0.nm,h0.ps,b):=by unfold fnOf;refine Er (find?_cons) (Er (Y5 rfl) ?_);rfl
 have Kj:=(pw.fn _ _ (fX a.nd h0 Zt)).ok;have Nl:=(pw.fn _ _ (fX a.nd h0 Zt)).ht;rw[f0]at Kj Nl;have tk:=kq (m:=m) pw 250 b (kv h0.ps ins) 0 h0.ps 20 Kj (ja hl.symm hv) (by unfold En;have:=Nl;dsimp only at this;omega);have IX:=As 311 p6.1 hl.symm p6.2 tk.run;have run:=v7 248 pw a.ndf (by refine Er hl ?_;exact(fX a.nd h0 Zt)) m9 hv;have tn:=BZ (D3 xs) (.fz (.list ((h0::Ka).map cN))) .no _ _ _ _ (wb 310 _ _ _ _ tk.vg run) tk.vg [.int 0,.int 1] .no .no;generalize (tv ((h0.nm,h0.ps,b)::fr) m 250 b (kv h0.ps ins) 0).1=R at IX tn;have x0:nX (.list ((h0::Ka).map cN)) (.int 0)=some (cN h0):=rfl;have hk:ke .len [.tuple (h0.ps.map .str)]=some (.fz (.int (h0.ps.length:Int))):=by show some (Rv.fz (.int (((h0.ps.map str).length:Nat):Int)))=_;rw[ZG]
 have Lb:bG .range [.int (h0.ps.length:Int)]=some ((List.range h0.ps.length).map λ(k:Nat)=>int (0+k)):=cH _ (Zh p6.2 (by decide));generalize (h0.ps.length:Int)=k at hk Lb;generalize fF ((h0.nm,h0.ps,b)::fr)=pD at ht hc IX tn;generalize (h0::Ka).map cN=hD at ht hc tn x0;generalize b3 R=rD at IX tn
 rcases q.2.2 with rfl|rfl
 .exact g (aM [.c 0 (q.1),.c 0 hf,.c 0 ht,.d 0 x0,.v 1 hk,.l 0 Lb,.cp 0 hc,.c 1 IQ,.v 0 Is,.c 0 IX,.lp 1 tn] rfl)
 .exact g (aM [.c 0 (q.1),.c 0 hf,.c 0 ht,.d 0 x0,.v 1 hk,.l 0 Lb,.cp 0 hc,.c 1 IQ,.v 0 Is,.c 0 IX,.lp 1 tn] rfl)
end Lq
end
set_option backward.match.sparseCases false
open PySem PySem.W PyProof.Rows Mv
set_option maxHeartbeats 8000000
namespace Lq
theorem w7 {mg mb:Str->Option Value} {K:Frag} (hg:∀x,mg x=iZ K x):∀ {cs:List Str},(cs.all λx=>(iZ K x).isSome)=true->f8 mg mb cs (cs.map (F5 K))
 |[],_=>trivial
 |x::cs,h=>by
  rw[all_cons,Z8]at h;obtain⟨v,hv⟩:=isSome_iff_exists.mp h.1;refine⟨.inl ?_,w7 hg h.2⟩;rw[hg,hv];unfold F5;rw[hv];rfl
theorem defAt:(recsOf Hq.view)[35]? = some Hq.dk.1:=by kernel_rfl
theorem xM (P:Params) :iZ (Hq.K P) (Str.ofString "SINGLES") = some (.ref 150):=by kernel_rfl
theorem xp (P:Params) :∃o,(Hq.K P).lookup 150 = some o∧o = {cls:=.type "tuple",data:=.seq [Value.str ⟨[100,111,119,110].toArray⟩ 379,Value.str ⟨[102,105,114,115,116].toArray⟩ 380,Value.str ⟨[114,101,115,116].toArray⟩ 381,Value.str ⟨[101,109,112,116,121].toArray⟩ 382].toArray}:=⟨_,rfl,by kernel_rfl⟩
theorem GR:valOf Hq.view (Str.ofString "HEAVIEST") = some (.int 50):=by kernel_rfl
section
variable [Hp] {loose:List Str} {pC:ExcName->Option Value}
theorem askOk (KX:(Hq.K w.params).In B) (qG:∀x,mg x = iZ (Hq.K w.params) x) (Of:∀x:Str,x≠"__name__"→mb x = bootBuiltins x) :∀c yes no,sb.lookup c = some (yes,no)→ ∃V,(mg c = some V∨(mg c = none∧mb c = some V))∧ ∀k C,mg k = some (.ref C)→(k∈yes→eN B C V true)∧(k∈no→eN B C V false):=by
 intro c yes no hl;have:=all_eq_true.mp (LY w.params) _ (kN hl);simp only[Z8,Bool.or_eq_true,Y4]at this;obtain⟨h1,h2⟩:=this;refine⟨F5 (Hq.K w.params) c,?_,λk C hk=>Bk KX h1 k C (by rw[<- qG];exact hk)⟩;cases q:iZ (Hq.K w.params) c with
 |some v=>left;rw[qG,q];unfold F5;rw[q];rfl
 |none=>
  rcases h2 with h2|h2
  .rw[q]at h2;cases h2
  .right
   refine⟨by rw[qG,q],?_⟩;rw[Of c (by rw[h2];decide),h2,FV,<- h2];unfold F5;rw[q];rfl
theorem askTOk (KX:(Hq.K w.params).In B) (qG:∀x,mg x=iZ (Hq.K w.params) x):∀cs yes no,sbt.lookup cs=some (yes,no)-> ∃Vs,f8 mg mb cs Vs/\ ∀k C,mg k=some (.ref C)->(k∈yes->dO B C Vs true)/\(k∈no->dO B C Vs false):=by
 intro cs yes no hl;have:=all_eq_true.mp (LW w.params) _ (kN hl);rw[Z8]at this;exact⟨_,w7 qG this.2,λk C hk=>Bj KX this.1 k C (by rw[<- qG];exact hk)⟩
theorem glsOk (KX:(Hq.K w.params).In B) (qG:∀x,mg x=iZ (Hq.K w.params) x) (T:Top Hq.view loose pC mg mb B) (V:LooseAre Hq.lv mg B):∀(k:Nat) (x:Str) (d:D),gls[k]? = some x->P.glob[k]? = some d-> ∃v,mg x=some v/\ ∀(h':Heap) (Z:Addr->Prop),(∀a o,B.get? a=some o->h'.get? a=some o)->(∀a o,B.get? a=some o->Z a)->b5 h' Z v d:=by
 intro k x d hk c5
 match k,hk,c5 with
 |0,hk,c5=>
  cases hk;cases c5;exact uB V (.head _)
 |1,hk,c5=>
  cases hk;cases c5;exact const_int T GR
 |2,hk,c5=>
  cases hk;cases c5;refine⟨.ref 150,(qG _).trans (xM w.params),λh' Z hk hz=>?_⟩;obtain⟨o,e,q⟩:=xp w.params;have e:=KX _ _ e;rw[q]at e;exact .tuple (hz _ _ e) (hk _ _ e) (by decide) ((.cons (.str _ _ (by kernel_rfl) (by decide)) (.cons (.str _ _ (by kernel_rfl) (by decide)) (.cons (.str _ _ (by kernel_rfl) (by decide)) (.cons (.str _ _ (by kernel_rfl) (by decide)) .nil)))))
end
end Lq
end Internal
open Internal PySem PySem.W PyProof.Rows Internal.Mv
set_option maxHeartbeats 8000000
set_option tactic.hygienic true in
theorem PySem.Challenge.cw_uf010005_04_holds : PySem.Challenge.rw_uf010005_04.Holds :=
 Hq.hd (by
 intro w s₀ s₁ mg mb G Y fa o pm cd gk dV kV ho hd Pa hD Kc hg args dI as Lg Lw Od Oa MZ;have KX:=kIn_of Y;have V:=(Ground.X G).2;refine Ground.open G ?_;intro T B D TE TW
 wrow_args Lg Lw Od Oa MZ
 rename_i xs hs M0 hL hr rG w4 w3 l vs w0 Pd ra w1 r0 hI EP E5 Pb;refine enter_call ?_;obtain⟨c,d,es,ep,sl,Ol⟩:=Lq.kG w.params;have qG:=A5 KX T.g Ol
 letI hp:Hp:=⟨w,s₁.heap,mg,mb⟩
 refine AF (hp:=hp) (P:=Lq.P) (nss:=Lq.nss) (f:=35) (n:=313) (xs:=xs) rfl T TE Lq.chkM Lq.chkR Lq.chk Lq.chkBd Lq.chkF (re T PySem.F.excBase_ValueError Lq.chkC) (Lq.askOk KX qG T.builtins) (Lq.askTOk KX qG) (Lq.glsOk KX qG T V) (by decide) Lq.defAt Kc w1 ?_ (by decide) hg ?_ ?_ (Lq.law_ok xs)
 .have:xs.length<=63:=by exact(Ln [xs.length] (.w .x (.c 63)) [Gi (.n .x) (.n (.c 63))] rfl (Int.not_lt.mp E5))
  exact Zh this (by decide)
 .intro cls;rfl
 .wrow_post)
